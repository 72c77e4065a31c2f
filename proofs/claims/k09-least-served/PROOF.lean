import PyProof.Rows.All
import Wide.All
import OpenK.AllK
import Wide.FinOn
import PyProof.P3Statements
import HandS.ForMost
import HandS.Exc
import HandS.ExcOwn
import HandS.WordsExc
import HandS.Deep
import HandS.Wide
import HandS.Zip
import HandS.Flow
import HandS.Style
import HandS.IsInst
import HandS.Defaults
import HandS.TupAny
import HandS.Conv
import HandS.Flt
import HandS.Head0
import HandS.Head1
import HandS.Head2
import HandS.HeadEnd
import HandS.HeadHook1
import HandS.HeadHook2
import PySem.Challenge.RW_cellyard_k09_whole_least_served
set_option Elab.async false
set_option linter.all false
set_option autoImplicit false
set_option maxRecDepth 100000
set_option maxHeartbeats 0
set_option exponentiation.threshold 2000
/-! An interpreter of a part of Python, as functions on data (no model in sight). -/
namespace IP
open PySem (Str)

/-- data: what a value is, without the machine's heap. lst: a list that nobody changes any more; ref: a place of our own heap; scr: the script -/
inductive D where
  | non | bl (b : Bool) | int (i : Int) | str (s : Str)
  | tup (xs : List D) | lst (xs : List D) | ref (n : Nat) | scr (xs : List D)
  deriving Inhabited

/-- what stands at a place of our heap -/
inductive O where
  | lst (xs : List D)
  | gone
  deriving Inhabited

abbrev Hp := List O
abbrev Lo := List (Option D)

/-- a run's end -/
inductive R (α : Type) where
  | ok (a : α) (h : Hp)
  | exc (c : Nat) (h : Hp)
  | no
/-- exc: an exception in the air, the names as they were when it rose -/
inductive Fl where
  | nxt (σ : Lo) | ret (d : D) | brk (σ : Lo) | cnt (σ : Lo) | exc (c : Nat) (σ : Lo)

def R.bnd {α β : Type} (r : R α) (f : α → Hp → R β) : R β := match r with
  | .ok a h => f a h
  | .exc c h => .exc c h
  | .no => .no

/-- nothing is raised here -/
def R.calm {α : Type} (r : R α) : R α := match r with
  | .exc _ _ => .no
  | r => r
def opt {α β : Type} (o : Option α) (f : α → R β) : R β := match o with
  | some a => f a
  | none => .no

abbrev E := Lo → Hp → R D
abbrev T := Lo → Hp → R Bool
abbrev A := Lo → Hp → R (List D)
abbrev S := Lo → Hp → R Fl
abbrev G := D → Lo → Hp → R Lo
abbrev Fn := List D → Hp → R D

/-! ### data as the library has it; equality -/
mutual
def toP : D → PySem.PyData
  | .non => .none
  | .bl b => .bool b
  | .int i => .int i
  | .str s => .str s
  | .tup xs => .tuple (toPs xs)
  | .lst xs => .list (toPs xs)
  | .ref _ => .dict []
  | .scr xs => .list (toPs xs)
def toPs : List D → List PySem.PyData
  | [] => []
  | x :: xs => toP x :: toPs xs
end
/-- may be compared -/
def plain (d : D) : Bool := (toP d).canLay0 && decide ((toP d).depth ≤ 64)
def eqD (a b : D) : Option Bool := if plain a && plain b then some (PySem.PyData.eqv (toP a) (toP b)) else none

/-! ### expressions -/
def eLoc (i : Nat) : E := fun σ h => match σ[i]? with
  | some (some d) => .ok d h
  | _ => .no
def eCst (d : D) : E := fun _ h => .ok d h
def two (f : D → D → Hp → R D) (a b : E) : E := fun σ h => (a σ h).bnd fun x h => (b σ h).bnd fun y h => f x y h
def one (f : D → Hp → R D) (a : E) : E := fun σ h => (a σ h).bnd fun x h => f x h

def small (i : Int) : Bool := decide (-(2 ^ 64) < i) && decide (i < 2 ^ 64)
/-- so many bits at most -/
def bits (i : Int) : Nat := i.natAbs.log2
def fAdd : D → D → Hp → R D
  | .int i, .int j, h => .ok (.int (i + j)) h
  | .lst xs, .lst ys, h => if xs.length + ys.length ≤ 100000 then .ok (.lst (xs ++ ys)) h else .no
  | .tup xs, .tup ys, h => if xs.length + ys.length ≤ 100000 then .ok (.tup (xs ++ ys)) h else .no
  | _, _, _ => .no
def fSub : D → D → Hp → R D
  | .int i, .int j, h => .ok (.int (i - j)) h
  | _, _, _ => .no
def mulOk (i j : Int) : Bool := small i || small j || decide (bits i + bits j < 1000000)
def fMul : D → D → Hp → R D
  | .int i, .int j, h => if mulOk i j then .ok (.int (i * j)) h else .no
  | .lst xs, .int k, h => if decide (k ≤ 100000) && decide (-100000 ≤ k) && decide (xs.length * k.toNat ≤ 100000) then .ok (.lst (List.replicate k.toNat xs).flatten) h else .no
  | _, _, _ => .no
def fFdv : D → D → Hp → R D
  | .int i, .int j, h => if decide (0 < j) && decide (bits j < 9000) then .ok (.int (i / j)) h else .no
  | _, _, _ => .no
def fMod : D → D → Hp → R D
  | .int i, .int j, h => if 0 < j then .ok (.int (i % j)) h else .no
  | _, _, _ => .no
def fPow : D → D → Hp → R D
  | .int i, .int j, h => if decide (0 ≤ j) && decide (j ≤ 1000) && decide (0 ≤ i) && decide (i ≤ 1000) then .ok (.int (i ^ j.toNat)) h else .no
  | _, _, _ => .no
def fCmp (p : Int → Int → Bool) : D → D → Hp → R D
  | .int i, .int j, h => .ok (.bl (p i j)) h
  | _, _, _ => .no
def fEq : D → D → Hp → R D := fun a b h => opt (eqD a b) fun r => .ok (.bl r) h
def fNe : D → D → Hp → R D := fun a b h => opt (eqD a b) fun r => .ok (.bl (!r)) h
/-- is None -/
def fIsN : D → Hp → R D
  | .non, h => .ok (.bl true) h
  | _, h => .ok (.bl false) h
def fNotN : D → Hp → R D
  | .non, h => .ok (.bl false) h
  | _, h => .ok (.bl true) h
def memD (x : D) (xs : List D) : Option Bool := if plain x && plain (.lst xs) then some (xs.any fun y => PySem.PyData.eqv (toP y) (toP x)) else none
def fIn : D → D → Hp → R D
  | x, .lst xs, h => opt (memD x xs) fun r => .ok (.bl r) h
  | _, _, _ => .no
def fNotIn : D → D → Hp → R D
  | x, .lst xs, h => opt (memD x xs) fun r => .ok (.bl (!r)) h
  | _, _, _ => .no
def fNeg : D → Hp → R D
  | .int i, h => .ok (.int (-i)) h
  | _, _ => .no
/-- an item by its place -/
def fIdx : D → D → Hp → R D
  | .tup xs, .int i, h => if 0 ≤ i then opt xs[i.toNat]? fun d => .ok d h else .no
  | .lst xs, .int i, h => if 0 ≤ i then opt xs[i.toNat]? fun d => .ok d h else .no
  | .scr xs, .int i, h => if 0 ≤ i then opt xs[i.toNat]? fun d => .ok d h else .no
  | _, _, _ => .no

/-! ### slices -/
abbrev Pt := Lo → Hp → R (Option Int)
def pNo : Pt := fun _ h => .ok none h
def pAt (e : E) : Pt := fun σ h => (e σ h).bnd fun x h => match x with
  | .int i => .ok (some i) h
  | _ => .no
def sIx (n d : Nat) : Option Int → Nat
  | none => d
  | some v => if v < 0 then (v + (n : Int)).toNat else min v.toNat n
def cut {α : Type} (xs : List α) (lo hi : Option Int) : List α := (xs.drop (sIx xs.length 0 lo)).take (sIx xs.length xs.length hi - sIx xs.length 0 lo)
def fSl : D → Option Int → Option Int → Hp → R D
  | .lst xs, l, u, h => .ok (.lst (cut xs l u)) h
  | .tup xs, l, u, h => .ok (.tup (cut xs l u)) h
  | _, _, _, _ => .no
def eSl (e : E) (a b : Pt) : E := fun σ h => (e σ h).bnd fun x h => (a σ h).bnd fun l h => (b σ h).bnd fun u h => fSl x l u h
/-- xs[::-1] -/
def fRev : D → Hp → R D
  | .lst xs, h => .ok (.lst xs.reverse) h
  | _, _ => .no

/-! ### tests -/
def tVal (e : E) : T := fun σ h => (e σ h).bnd fun x h => match x with
  | .bl b => .ok b h
  | _ => .no
def tAnd (a b : T) : T := fun σ h => (a σ h).bnd fun x h => if x then b σ h else .ok false h
def tOr (a b : T) : T := fun σ h => (a σ h).bnd fun x h => if x then .ok true h else b σ h
def tNot (a : T) : T := fun σ h => (a σ h).bnd fun x h => .ok (!x) h
/-- and, or of truths, as values -/
def eAnd (a b : E) : E := fun σ h => (a σ h).bnd fun x h => match x with
  | .bl true => b σ h
  | .bl false => .ok (.bl false) h
  | _ => .no
def eOr (a b : E) : E := fun σ h => (a σ h).bnd fun x h => match x with
  | .bl false => b σ h
  | .bl true => .ok (.bl true) h
  | _ => .no
def eNot (a : E) : E := fun σ h => (a σ h).bnd fun x h => match x with
  | .bl b => .ok (.bl (!b)) h
  | _ => .no
def eIf (c : T) (a b : E) : E := fun σ h => (c σ h).bnd fun x h => if x then a σ h else b σ h
def eChain (f g : D → D → Hp → R D) (a b c : E) : E := fun σ h => (a σ h).bnd fun x h => (b σ h).bnd fun y h => (f x y h).bnd fun z h => match z with
  | .bl true => (c σ h).bnd fun w h => g y w h
  | .bl false => .ok (.bl false) h
  | _ => .no

/-! ### arguments, displays, calls -/
def aNil : A := fun _ h => .ok [] h
def aCons (e : E) (r : A) : A := fun σ h => (e σ h).bnd fun x h => (r σ h).bnd fun xs h => .ok (x :: xs) h
def eTup (a : A) : E := fun σ h => (a σ h).bnd fun xs h => if xs.length ≤ 100000 then .ok (.tup xs) h else .no
def eLst (a : A) : E := fun σ h => (a σ h).bnd fun xs h => if xs.length ≤ 100000 then .ok (.lst xs) h else .no
/-- a list that will grow -/
def eMkl (a : A) : E := fun σ h => (a σ h).bnd fun xs h => if xs.length ≤ 100000 then .ok (.ref h.length) (h ++ [.lst xs]) else .no
def eCall (np : Nat) (f : Fn) (a : A) : E := fun σ h => (a σ h).bnd fun xs h => if xs.length = np then f xs h else .no
def isL : D → Hp → Bool
  | .ref n, h => (match h[n]? with
    | some (.lst _) => true
    | _ => false)
  | _, _ => false
def fApp : D → D → Hp → R D
  | .ref n, d, h => (match h[n]? with
    | some (.lst xs) => if xs.length < 100000 then .ok .non (h.set n (.lst (xs ++ [d]))) else .no
    | _ => .no)
  | _, _, _ => .no
def eApp (o : E) (a : E) : E := fun σ h => (o σ h).bnd fun x h => if isL x h then (a σ h).bnd fun d h => fApp x d h else .no

/-! ### built-ins -/
def seqOf (d : D) : Option (List D) := match d with
  | .tup xs => some xs
  | .lst xs => some xs
  | _ => none
def intsD : List D → Option (List Int)
  | [] => some []
  | .int i :: r => match intsD r with
    | some is => some (i :: is)
    | none => none
  | _ :: _ => none
def blsD : List D → Option (List Bool)
  | [] => some []
  | .bl i :: r => match blsD r with
    | some is => some (i :: is)
    | none => none
  | _ :: _ => none
def lenOf (d : D) : Option Nat := match d with
  | .tup xs => some xs.length
  | .lst xs => some xs.length
  | .scr xs => some xs.length
  | _ => none
def fLen : D → Hp → R D := fun d h => opt (lenOf d) fun n => .ok (.int n) h
def fList : D → Hp → R D := fun d h => opt (seqOf d) fun xs => .ok (.lst xs) h
def fSum : D → Hp → R D
  | .lst xs, h => opt (intsD xs) fun is => .ok (.int is.sum) h
  | _, _ => .no
def fAny : D → Hp → R D
  | .lst xs, h => opt (blsD xs) fun is => .ok (.bl (is.any id)) h
  | _, _ => .no
def fAll : D → Hp → R D
  | .lst xs, h => opt (blsD xs) fun is => .ok (.bl (is.all id)) h
  | _, _ => .no
def fMax : D → D → Hp → R D
  | .int i, .int j, h => .ok (.int (if j > i then j else i)) h
  | _, _, _ => .no
def fMin : D → D → Hp → R D
  | .int i, .int j, h => .ok (.int (if j < i then j else i)) h
  | _, _, _ => .no
inductive Ty where | int | bool | str | tuple | list
/-- isinstance of a built-in class -/
def isTy (t : Ty) : D → Bool := match t with
  | .int => fun | .int _ => true | .bl _ => true | _ => false
  | .bool => fun | .bl _ => true | _ => false
  | .str => fun | .str _ => true | _ => false
  | .tuple => fun | .tup _ => true | _ => false
  | .list => fun | .lst _ => true | _ => false
def fIs (t : Ty) : D → Hp → R D
  | .ref _, _ => .no
  | .scr _, _ => .no
  | d, h => .ok (.bl (isTy t d)) h

/-! ### targets -/
def gLoc (i : Nat) : G := fun d σ h => .ok (σ.set i (some d)) h
def gNil : List D → Lo → Hp → R Lo := fun ds σ h => match ds with
  | [] => .ok σ h
  | _ => .no
def gCons (g : G) (r : List D → Lo → Hp → R Lo) : List D → Lo → Hp → R Lo := fun ds σ h => match ds with
  | d :: ds => (g d σ h).bnd fun σ h => r ds σ h
  | [] => .no
def gTup (n : Nat) (r : List D → Lo → Hp → R Lo) : G := fun d σ h => match d with
  | .tup ds => if ds.length = n then r ds σ h else .no
  | _ => .no

/-! ### what is walked: all items at once -/
def iSeq (e : E) : A := fun σ h => (e σ h).bnd fun d h => opt (seqOf d) fun xs => .ok xs h
def rng (lo : Int) : Nat → List D
  | 0 => []
  | n + 1 => .int lo :: rng (lo + 1) n
def iRng (e : E) : A := fun σ h => (e σ h).bnd fun d h => match d with
  | .int j => if decide (-1000000 ≤ j) && decide (j ≤ 1000000) then .ok (rng 0 j.toNat) h else .no
  | _ => .no
def iRng2 (a b : E) : A := fun σ h => (a σ h).bnd fun d h => (b σ h).bnd fun e h => match d, e with
  | .int i, .int j => if decide (-1000000 ≤ j) && decide (j ≤ 1000000) && decide (-1000000 ≤ i) && decide (i ≤ 1000000) then .ok (rng i (j - i).toNat) h else .no
  | _, _ => .no
def zipD : List D → List D → List D
  | x :: xs, y :: ys => .tup [x, y] :: zipD xs ys
  | _, _ => []
def iZip (a b : E) : A := fun σ h => (a σ h).bnd fun d h => (b σ h).bnd fun e h => match d, e with
  | .lst xs, .lst ys => .ok (zipD xs ys) h
  | _, _ => .no

/-! ### comprehensions -/
def wipe (σ : Lo) : List Nat → Lo
  | [] => σ
  | v :: vs => (wipe σ vs).set v none
/-- one turn: the target, the tests, the element -/
def lcTurn (g : G) (t : T) (e : E) (σ : Lo) (x : D) (h : Hp) : R (Option D) := ((g x σ h).bnd fun σ h => (t σ h).bnd fun b h => if b then (e σ h).bnd fun d h => .ok (some d) h else .ok none h).calm
def lcThen (again : List D → Hp → R (List D)) (acc : List D) : Option D → Hp → R (List D)
  | some d, h => if acc.length < 100000 then again (acc ++ [d]) h else .no
  | none, h => again acc h
def lcGo (g : G) (t : T) (e : E) (σ : Lo) : List D → List D → Hp → R (List D)
  | [], acc, h => .ok acc h
  | x :: xs, acc, h => (lcTurn g t e σ x h).bnd (lcThen (lcGo g t e σ xs) acc)
def eLc (vs : List Nat) (g : G) (i : A) (t : T) (e : E) : E := fun σ h => (i σ h).bnd fun xs h => (lcGo g t e (wipe σ vs) xs [] h).bnd fun ys h => .ok (.lst ys) h
def tYes : T := fun _ h => .ok true h

/-! ### statements -/
/-- an expression within a statement: what it raises is in the air -/
def R.stm {α : Type} (r : R α) (σ : Lo) (f : α → Hp → R Fl) : R Fl := match r with
  | .ok a h => f a h
  | .exc c h => .ok (.exc c σ) h
  | .no => .no
def sPass : S := fun σ h => .ok (.nxt σ) h
def sAsg (g : G) (e : E) : S := fun σ h => (e σ h).stm σ fun d h => (g d σ h).calm.stm σ fun σ h => .ok (.nxt σ) h
/-- x, y = a, b -/
def sPar (i j : Nat) (a b : E) : S := fun σ h => (a σ h).stm σ fun x h => (b σ h).stm σ fun y h => .ok (.nxt ((σ.set i (some x)).set j (some y))) h
def sPar3 (i j k : Nat) (a b c : E) : S := fun σ h => (a σ h).stm σ fun x h => (b σ h).stm σ fun y h => (c σ h).stm σ fun z h => .ok (.nxt (((σ.set i (some x)).set j (some y)).set k (some z))) h
def sEx (e : E) : S := fun σ h => (e σ h).stm σ fun _ h => .ok (.nxt σ) h
def sRet (e : E) : S := fun σ h => (e σ h).stm σ fun d h => .ok (.ret d) h
/-- the list that grew is handed back, nobody changes it any more -/
def sRetf (i : Nat) : S := fun σ h => match σ[i]? with
  | some (some (.ref n)) => (match h[n]? with
    | some (.lst xs) => .ok (.ret (.lst xs)) (h.set n .gone)
    | _ => .no)
  | _ => .no
def sIf (c : T) (a b : S) : S := fun σ h => (c σ h).stm σ fun x h => if x then a σ h else b σ h
def bNil : S := sPass
/-- one statement behind another -/
def R.thn (r : R Fl) (f : S) : R Fl := match r with
  | .ok (.nxt σ) h => f σ h
  | r => r
def bCons (s r : S) : S := fun σ h => (s σ h).thn r
def sNo : S := fun _ _ => .no
/-- behind a turn's body -/
def R.trn (r : R Fl) (f : S) : R Fl := match r with
  | .ok (.nxt σ) h => f σ h
  | .ok (.cnt σ) h => f σ h
  | .ok (.brk σ) h => .ok (.nxt σ) h
  | r => r
def sWhl : Nat → T → S → S
  | 0, _, _ => sNo
  | n + 1, c, b => fun σ h => (c σ h).stm σ fun x h => if x then (b σ h).trn (sWhl n c b) else .ok (.nxt σ) h
def forGo (g : G) (b : S) : List D → S
  | [] => fun σ h => .ok (.nxt σ) h
  | x :: xs => fun σ h => (g x σ h).calm.stm σ fun σ h => (b σ h).trn (forGo g b xs)
def sFor (g : G) (i : A) (b : S) : S := fun σ h => (i σ h).stm σ fun xs h => forGo g b xs σ h

/-! ### lists that change -/
def fMin3 : D → D → D → Hp → R D
  | .int i, .int j, .int k, h => .ok (.int (if k < (if j < i then j else i) then k else (if j < i then j else i))) h
  | _, _, _, _ => .no
def three (f : D → D → D → Hp → R D) (a b c : E) : E := fun σ h => (a σ h).bnd fun x h => (b σ h).bnd fun y h => (c σ h).bnd fun z h => f x y z h
def newOf : D → Hp → R D
  | .lst xs, h => .ok (.ref h.length) (h ++ [.lst xs])
  | _, _ => .no
def eNewMul (a b : E) : E := fun σ h => (a σ h).bnd fun x h => (b σ h).bnd fun y h => (fMul x y h).bnd newOf
def eNewRng (a : E) : E := fun σ h => (a σ h).bnd fun d h => match d with
  | .int j => if decide (0 ≤ j) && decide (j ≤ 100000) then .ok (.ref h.length) (h ++ [.lst (rng 0 j.toNat)]) else .no
  | _ => .no
def lstAt : D → Hp → Option (Nat × List D)
  | .ref n, h => (match h[n]? with
    | some (.lst xs) => some (n, xs)
    | _ => none)
  | _, _ => none
def fLenR : D → Hp → R D := fun d h => opt (lstAt d h) fun p => .ok (.int p.2.length) h
def fIdxR : D → D → Hp → R D := fun d i h => match i with
  | .int i => if 0 ≤ i then opt (lstAt d h) fun p => opt p.2[i.toNat]? fun v => .ok v h else .no
  | _ => .no
def fPop : D → D → Hp → R D := fun d i h => match i with
  | .int i => if 0 ≤ i ∧ i ≤ 100000 then opt (lstAt d h) fun p => opt p.2[i.toNat]? fun v => .ok v (h.set p.1 (.lst (p.2.eraseIdx i.toNat))) else .no
  | _ => .no
def ePop (o a : E) : E := fun σ h => (o σ h).bnd fun x h => if isL x h then (a σ h).bnd fun d h => fPop x d h else .no
def fSet : D → D → D → Hp → R D := fun d i v h => match i with
  | .int i => if 0 ≤ i then opt (lstAt d h) fun p => if i.toNat < p.2.length then .ok .non (h.set p.1 (.lst (p.2.set i.toNat v))) else .no else .no
  | _ => .no
def sSub (o i e : E) : S := fun σ h => (e σ h).stm σ fun v h => (o σ h).stm σ fun x h => (i σ h).stm σ fun d h => (fSet x d v h).calm.stm σ fun _ h => .ok (.nxt σ) h
/-- from here on nobody changes the list of this name -/
def sFrz (i : Nat) : S := fun σ h => match σ[i]? with
  | some (some (.ref n)) => (match h[n]? with
    | some (.lst xs) => .ok (.nxt (σ.set i (some (.lst xs)))) (h.set n .gone)
    | _ => .no)
  | _ => .no
def enmD (k : Nat) : List D → List D
  | [] => []
  | x :: xs => .tup [.int (k : Int), x] :: enmD (k + 1) xs
def iEnm (e : E) : A := fun σ h => (e σ h).bnd fun d h => match d with
  | .lst xs => .ok (enmD 0 xs) h
  | _ => .no

/-! ### defs -/
def entry (ns : Nat) (ds : List D) : Lo := ds.map some ++ List.replicate (ns - ds.length) none
def fnEnd (r : R Fl) : R D := match r with
  | .ok (.ret d) h => .ok d h
  | .ok (.nxt _) h => .ok .non h
  | .ok (.exc c _) h => .exc c h
  | _ => .no
def mkFn (np ns : Nat) (b : S) : Fn := fun ds h => if ds.length = np then fnEnd (b (entry ns ds) h) else .no
end IP

namespace IP
abbrev fLt := fCmp fun i j => decide (i < j)
abbrev fLe := fCmp fun i j => decide (i ≤ j)
abbrev fGt := fCmp fun i j => decide (j < i)
abbrev fGe := fCmp fun i j => decide (j ≤ i)
def fuel : Nat := 10 ^ 400
end IP
namespace Sh
open PySem IP
/-! ### the defs of the text, as terms of IP -/
def b_is_whole : S := (bCons (sRet (eAnd (one (fIs Ty.int) (eLoc 0)) (eAnd (eNot (one (fIs Ty.bool) (eLoc 0))) (eChain fLe fLe (eLoc 1) (eLoc 0) (eLoc 2)))))
 bNil)
def f_is_whole : Fn := mkFn 3 3 b_is_whole
def b_look_whole : S := (bCons (sIf (tNot (tVal (eCall 3 f_is_whole (aCons (eLoc 0) (aCons (eLoc 1) (aCons (eLoc 2) aNil))))))
 (bCons sNo
 bNil)
 bNil)
 bNil)
def f_look_whole : Fn := mkFn 3 3 b_look_whole
def b_lowest : S := (bCons (sPar 2 3 (eLoc 0) (eLoc 1))
 (bCons (sWhl fuel (tVal (two fNe (eLoc 3) (eCst (D.int (0 : Int)))))
 (bCons (sPar 2 3 (eLoc 3) (two fMod (eLoc 2) (eLoc 3)))
 bNil))
 (bCons (sRet (eTup (aCons (two fFdv (eLoc 0) (eLoc 2)) (aCons (two fFdv (eLoc 1) (eLoc 2)) aNil))))
 bNil)))
def f_lowest : Fn := mkFn 2 4 b_lowest
def b_plus : S := (bCons (sRet (eCall 2 f_lowest (aCons (two fAdd (two fMul (two fIdx (eLoc 0) (eCst (D.int (0 : Int)))) (two fIdx (eLoc 1) (eCst (D.int (1 : Int))))) (two fMul (two fIdx (eLoc 1) (eCst (D.int (0 : Int)))) (two fIdx (eLoc 0) (eCst (D.int (1 : Int)))))) (aCons (two fMul (two fIdx (eLoc 0) (eCst (D.int (1 : Int)))) (two fIdx (eLoc 1) (eCst (D.int (1 : Int))))) aNil))))
 bNil)
def f_plus : Fn := mkFn 2 2 b_plus
def b_minus : S := (bCons (sRet (eCall 2 f_lowest (aCons (two fSub (two fMul (two fIdx (eLoc 0) (eCst (D.int (0 : Int)))) (two fIdx (eLoc 1) (eCst (D.int (1 : Int))))) (two fMul (two fIdx (eLoc 1) (eCst (D.int (0 : Int)))) (two fIdx (eLoc 0) (eCst (D.int (1 : Int)))))) (aCons (two fMul (two fIdx (eLoc 0) (eCst (D.int (1 : Int)))) (two fIdx (eLoc 1) (eCst (D.int (1 : Int))))) aNil))))
 bNil)
def f_minus : Fn := mkFn 2 2 b_minus
def b_times : S := (bCons (sRet (eCall 2 f_lowest (aCons (two fMul (two fIdx (eLoc 0) (eCst (D.int (0 : Int)))) (eLoc 1)) (aCons (two fIdx (eLoc 0) (eCst (D.int (1 : Int)))) aNil))))
 bNil)
def f_times : Fn := mkFn 2 2 b_times
def b_parted : S := (bCons (sRet (eCall 2 f_lowest (aCons (two fIdx (eLoc 0) (eCst (D.int (0 : Int)))) (aCons (two fMul (two fIdx (eLoc 0) (eCst (D.int (1 : Int)))) (eLoc 1)) aNil))))
 bNil)
def f_parted : Fn := mkFn 2 2 b_parted
def b_is_less : S := (bCons (sRet (two fLt (two fMul (two fIdx (eLoc 0) (eCst (D.int (0 : Int)))) (two fIdx (eLoc 1) (eCst (D.int (1 : Int))))) (two fMul (two fIdx (eLoc 1) (eCst (D.int (0 : Int)))) (two fIdx (eLoc 0) (eCst (D.int (1 : Int)))))))
 bNil)
def f_is_less : Fn := mkFn 2 2 b_is_less
def b_lesser : S := (bCons (sRet (eIf (tVal (eCall 2 f_is_less (aCons (eLoc 1) (aCons (eLoc 0) aNil)))) (eLoc 1) (eLoc 0)))
 bNil)
def f_lesser : Fn := mkFn 2 2 b_lesser
def b_total : S := (bCons (sAsg (gLoc 1) (eCst (D.tup [(D.int (0 : Int)), (D.int (1 : Int))])))
 (bCons (sFor (gLoc 2) (iSeq (eLoc 0))
 (bCons (sAsg (gLoc 1) (eCall 2 f_plus (aCons (eLoc 1) (aCons (eLoc 2) aNil))))
 bNil))
 (bCons (sRet (eLoc 1))
 bNil)))
def f_total : Fn := mkFn 1 3 b_total
def b_are_wants : S := (bCons (sIf (tOr (tNot (tVal (one (fIs Ty.list) (eLoc 0)))) (tVal (two fGt (one fLen (eLoc 0)) (eCst (D.int (12 : Int))))))
 (bCons (sRet (eCst (D.bl false)))
 bNil)
 bNil)
 (bCons (sIf (tNot (tVal (one fAll (eLc [1] (gLoc 1) (iSeq (eLoc 0)) tYes (eAnd (one (fIs Ty.tuple) (eLoc 1)) (two fEq (one fLen (eLoc 1)) (eCst (D.int (2 : Int)))))))))
 (bCons (sRet (eCst (D.bl false)))
 bNil)
 bNil)
 (bCons (sRet (one fAll (eLc [2, 3] (gTup 2 (gCons (gLoc 2) (gCons (gLoc 3) gNil))) (iSeq (eLoc 0)) tYes (eAnd (eCall 3 f_is_whole (aCons (eLoc 2) (aCons (eCst (D.int (1 : Int))) (aCons (eCst (D.int (100 : Int))) aNil)))) (eCall 3 f_is_whole (aCons (eLoc 3) (aCons (eCst (D.int (0 : Int))) (aCons (eCst (D.int (999 : Int))) aNil))))))))
 bNil)))
def f_are_wants : Fn := mkFn 1 4 b_are_wants
def b_level_of : S := (bCons (sIf (tNot (tVal (eCall 2 f_is_less (aCons (eLoc 0) (aCons (eCall 1 f_total (aCons (eLc [2, 3] (gTup 2 (gCons (gLoc 2) (gCons (gLoc 3) gNil))) (iSeq (eLoc 1)) tYes (eLoc 3)) aNil)) aNil)))))
 (bCons (sRet (eCst D.non))
 bNil)
 bNil)
 (bCons (sPar 4 5 (eLoc 0) (one fList (eLoc 1)))
 (bCons (sWhl fuel (tVal (two fNe (eLoc 5) (eLst aNil)))
 (bCons (sAsg (gLoc 6) (eCall 2 f_parted (aCons (eLoc 4) (aCons (one fSum (eLc [2, 3] (gTup 2 (gCons (gLoc 2) (gCons (gLoc 3) gNil))) (iSeq (eLoc 5)) tYes (eLoc 2))) aNil))))
 (bCons (sAsg (gLoc 8) (eLc [7] (gLoc 7) (iSeq (eLoc 5)) (tVal (eCall 2 f_is_less (aCons (two fIdx (eLoc 7) (eCst (D.int (1 : Int)))) (aCons (eCall 2 f_times (aCons (eLoc 6) (aCons (two fIdx (eLoc 7) (eCst (D.int (0 : Int)))) aNil))) aNil)))) (eLoc 7)))
 (bCons (sIf (tVal (two fEq (eLoc 8) (eLst aNil)))
 (bCons (sRet (eLoc 6))
 bNil)
 bNil)
 (bCons (sAsg (gLoc 4) (eCall 2 f_minus (aCons (eLoc 4) (aCons (eCall 1 f_total (aCons (eLc [2, 3] (gTup 2 (gCons (gLoc 2) (gCons (gLoc 3) gNil))) (iSeq (eLoc 8)) tYes (eLoc 3)) aNil)) aNil))))
 (bCons (sAsg (gLoc 5) (eLc [7] (gLoc 7) (iSeq (eLoc 5)) (tVal (two fNotIn (eLoc 7) (eLoc 8))) (eLoc 7)))
 bNil))))))
 (bCons (sRet (eCst D.non))
 bNil))))
def f_level_of : Fn := mkFn 2 9 b_level_of
def b_parts_of : S := (bCons (sAsg (gLoc 2) (eCall 2 f_level_of (aCons (eLoc 0) (aCons (eLoc 1) aNil))))
 (bCons (sRet (eLc [3, 4] (gTup 2 (gCons (gLoc 3) (gCons (gLoc 4) gNil))) (iSeq (eLoc 1)) tYes (eIf (tVal (one fIsN (eLoc 2))) (eLoc 4) (eCall 2 f_lesser (aCons (eLoc 4) (aCons (eCall 2 f_times (aCons (eLoc 2) (aCons (eLoc 3) aNil))) aNil))))))
 bNil))
def f_parts_of : Fn := mkFn 2 5 b_parts_of
def b_fractions_of : S := (bCons (sRet (eLc [1, 2] (gTup 2 (gCons (gLoc 1) (gCons (gLoc 2) gNil))) (iSeq (eLoc 0)) tYes (eTup (aCons (eLoc 1) (aCons (eTup (aCons (eLoc 2) (aCons (eCst (D.int (1 : Int))) aNil))) aNil)))))
 bNil)
def f_fractions_of : Fn := mkFn 1 3 b_fractions_of
def b_look_all : S := (bCons (sEx (eCall 3 f_look_whole (aCons (eLoc 0) (aCons (eCst (D.int (0 : Int))) (aCons (eCst (D.int (9999 : Int))) aNil)))))
 (bCons (sIf (tNot (tVal (eCall 1 f_are_wants (aCons (eLoc 1) aNil))))
 (bCons sNo
 bNil)
 bNil)
 bNil))
def f_look_all : Fn := mkFn 2 2 b_look_all
def b_shares : S := (bCons (sEx (eCall 2 f_look_all (aCons (eLoc 0) (aCons (eLoc 1) aNil))))
 (bCons (sRet (eCall 2 f_parts_of (aCons (eTup (aCons (eLoc 0) (aCons (eCst (D.int (1 : Int))) aNil))) (aCons (eCall 1 f_fractions_of (aCons (eLoc 1) aNil)) aNil))))
 bNil))
def f_shares : Fn := mkFn 2 2 b_shares
def b_level : S := (bCons (sEx (eCall 2 f_look_all (aCons (eLoc 0) (aCons (eLoc 1) aNil))))
 (bCons (sRet (eCall 2 f_level_of (aCons (eTup (aCons (eLoc 0) (aCons (eCst (D.int (1 : Int))) aNil))) (aCons (eCall 1 f_fractions_of (aCons (eLoc 1) aNil)) aNil))))
 bNil))
def f_level : Fn := mkFn 2 2 b_level
def b_unshared : S := (bCons (sEx (eCall 2 f_look_all (aCons (eLoc 0) (aCons (eLoc 1) aNil))))
 (bCons (sRet (eIf (tVal (two fNe (eLoc 1) (eLst aNil))) (eCall 2 f_minus (aCons (eTup (aCons (eLoc 0) (aCons (eCst (D.int (1 : Int))) aNil))) (aCons (eCall 1 f_total (aCons (eCall 2 f_parts_of (aCons (eTup (aCons (eLoc 0) (aCons (eCst (D.int (1 : Int))) aNil))) (aCons (eCall 1 f_fractions_of (aCons (eLoc 1) aNil)) aNil))) aNil)) aNil))) (eTup (aCons (eLoc 0) (aCons (eCst (D.int (1 : Int))) aNil)))))
 bNil))
def f_unshared : Fn := mkFn 2 2 b_unshared
def b__law_pick : S := (bCons (sAsg (gLoc 3) (eIf (tVal (two fNe (eLoc 0) (eLst aNil))) (two fIdx (eLoc 0) (two fMod (eLoc 1) (one fLen (eLoc 0)))) (eCst (D.int (0 : Int)))))
 (bCons (sPar 4 5 (two fFdv (eLoc 3) (two fPow (eCst (D.int (10 : Int))) (eCst (D.int (18 : Int))))) (two fFdv (eLoc 1) (two fMax (one fLen (eLoc 0)) (eCst (D.int (1 : Int))))))
 (bCons (sWhl fuel (tAnd (tVal (two fGt (eLoc 4) (eCst (D.int (0 : Int))))) (tVal (two fGt (eLoc 5) (eCst (D.int (0 : Int))))))
 (bCons (sPar 4 5 (two fFdv (eLoc 4) (eCst (D.int (840 : Int)))) (two fSub (eLoc 5) (eCst (D.int (1 : Int)))))
 bNil))
 (bCons (sIf (tVal (two fGt (eLoc 4) (eCst (D.int (0 : Int)))))
 (bCons (sRet (two fMod (two fMod (eLoc 4) (eCst (D.int (840 : Int)))) (eLoc 2)))
 bNil)
 bNil)
 (bCons (sAsg (gLoc 6) (two fMod (two fMul (two fAdd (two fMul (eLoc 3) (eCst (D.int (31 : Int)))) (two fMul (eCst (D.int (6151 : Int))) (two fAdd (eLoc 1) (eCst (D.int (1 : Int)))))) (eCst (D.int (40692 : Int)))) (eCst (D.int (2147483399 : Int)))))
 (bCons (sRet (two fMod (two fMod (two fAdd (two fMul (eLoc 6) (eLoc 6)) (two fFdv (eLoc 6) (eCst (D.int (31 : Int))))) (eCst (D.int (2147483629 : Int)))) (eLoc 2)))
 bNil))))))
def f__law_pick : Fn := mkFn 3 7 b__law_pick
def b__law_wants : S := (bCons (sAsg (gLoc 2) (eMkl aNil))
 (bCons (sFor (gLoc 3) (iRng (eCall 3 f__law_pick (aCons (eLoc 0) (aCons (eLoc 1) (aCons (eCst (D.int (8 : Int))) aNil)))))
 (bCons (sAsg (gLoc 4) (two fIdx (eLst (aCons (eCst (D.int (1 : Int))) (aCons (eCst (D.int (1 : Int))) (aCons (eCst (D.int (2 : Int))) (aCons (eCst (D.int (3 : Int))) (aCons (eCst (D.int (7 : Int))) (aCons (eCst (D.int (100 : Int))) aNil))))))) (eCall 3 f__law_pick (aCons (eLoc 0) (aCons (two fAdd (two fAdd (eLoc 1) (eCst (D.int (1 : Int)))) (eLoc 3)) (aCons (eCst (D.int (6 : Int))) aNil))))))
 (bCons (sEx (eApp (eLoc 2) (eTup (aCons (eLoc 4) (aCons (two fIdx (eLst (aCons (eCst (D.int (0 : Int))) (aCons (eCst (D.int (1 : Int))) (aCons (eCst (D.int (5 : Int))) (aCons (eCst (D.int (10 : Int))) (aCons (eCst (D.int (40 : Int))) (aCons (eCst (D.int (999 : Int))) aNil))))))) (eCall 3 f__law_pick (aCons (eLoc 0) (aCons (two fAdd (two fAdd (eLoc 1) (eCst (D.int (9 : Int)))) (eLoc 3)) (aCons (eCst (D.int (6 : Int))) aNil))))) aNil)))))
 bNil)))
 (bCons (sRetf 2)
 bNil)))
def f__law_wants : Fn := mkFn 2 5 b__law_wants
def b__law_same : S := (bCons (sRet (two fEq (two fMul (two fIdx (eLoc 0) (eCst (D.int (0 : Int)))) (two fIdx (eLoc 1) (eCst (D.int (1 : Int))))) (two fMul (two fIdx (eLoc 1) (eCst (D.int (0 : Int)))) (two fIdx (eLoc 0) (eCst (D.int (1 : Int)))))))
 bNil)
def f__law_same : Fn := mkFn 2 2 b__law_same
def b__law_sum : S := (bCons (sAsg (gTup 2 (gCons (gLoc 1) (gCons (gLoc 2) gNil))) (eTup (aCons (eCst (D.int (0 : Int))) (aCons (eCst (D.int (1 : Int))) aNil))))
 (bCons (sFor (gTup 2 (gCons (gLoc 3) (gCons (gLoc 4) gNil))) (iSeq (eLoc 0))
 (bCons (sPar 1 2 (two fAdd (two fMul (eLoc 1) (eLoc 4)) (two fMul (eLoc 3) (eLoc 2))) (two fMul (eLoc 2) (eLoc 4)))
 bNil))
 (bCons (sWhl fuel (tAnd (tVal (two fEq (two fMod (eLoc 2) (eCst (D.int (2 : Int)))) (eCst (D.int (0 : Int))))) (tAnd (tVal (two fEq (two fMod (eLoc 1) (eCst (D.int (2 : Int)))) (eCst (D.int (0 : Int))))) (tVal (two fGt (eLoc 2) (eCst (D.int (0 : Int)))))))
 (bCons (sPar 1 2 (two fFdv (eLoc 1) (eCst (D.int (2 : Int)))) (two fFdv (eLoc 2) (eCst (D.int (2 : Int)))))
 bNil))
 (bCons (sRet (eTup (aCons (eLoc 1) (aCons (eLoc 2) aNil))))
 bNil))))
def f__law_sum : Fn := mkFn 1 5 b__law_sum
def b__law_fraction : S := (bCons (sIf (tOr (tNot (tVal (one (fIs Ty.tuple) (eLoc 0)))) (tOr (tVal (two fNe (one fLen (eLoc 0)) (eCst (D.int (2 : Int))))) (tOr (tVal (two fLt (two fIdx (eLoc 0) (eCst (D.int (1 : Int)))) (eCst (D.int (1 : Int))))) (tVal (two fLt (two fIdx (eLoc 0) (eCst (D.int (0 : Int)))) (eCst (D.int (0 : Int))))))))
 (bCons (sRet (eCst (D.bl false)))
 bNil)
 bNil)
 (bCons (sAsg (gTup 2 (gCons (gLoc 1) (gCons (gLoc 2) gNil))) (eLoc 0))
 (bCons (sWhl fuel (tVal (two fNe (eLoc 2) (eCst (D.int (0 : Int)))))
 (bCons (sPar 1 2 (eLoc 2) (two fMod (eLoc 1) (eLoc 2)))
 bNil))
 (bCons (sRet (two fEq (eLoc 1) (eCst (D.int (1 : Int)))))
 bNil))))
def f__law_fraction : Fn := mkFn 1 3 b__law_fraction
def b__law_less : S := (bCons (sRet (two fLt (two fMul (two fIdx (eLoc 0) (eCst (D.int (0 : Int)))) (two fIdx (eLoc 1) (eCst (D.int (1 : Int))))) (two fMul (two fIdx (eLoc 1) (eCst (D.int (0 : Int)))) (two fIdx (eLoc 0) (eCst (D.int (1 : Int)))))))
 bNil)
def f__law_less : Fn := mkFn 2 2 b__law_less
end Sh

/-! What the interpreter says is what the model does: the relation, and a rule a construct. -/
namespace IP
open PySem PySem.Spec PyProof.Rows L2
/-- a list that is known to its object, or written -/
def SqS (K : PySem.W.Frag) (H : L2.Hp) (a : Addr) (vs : List V) : Prop := (∃ o, H a = some (.frz o (.lst vs))) ∨
  ∃ (o : Obj) (its : Array Value) (n : Nat), K.lookup a = some o ∧ o.cls = .type "list" ∧ o.dict = none ∧ o.data = .seq its n ∧ its.size ≤ sizeLine ∧ Vals vs its.toList
theorem SqS.sql {K : PySem.W.Frag} {H : L2.Hp} {a : Addr} {vs : List V} (h : SqS K H a vs) : SqL K H a vs := h.imp (fun ⟨o, q⟩ => .inr ⟨o, q⟩) id
section
variable (K : PySem.W.Frag)
mutual
/-- a value of the machine stands for data -/
inductive RD (H : L2.Hp) (m : List Addr) : D → V → Prop
  | non : RD H m .non .non
  | bl (b : Bool) : RD H m (.bl b) (.bl b)
  | int (i : Int) : RD H m (.int i) (.int i)
  | str (s : Str) : RD H m (.str s) (.str s)
  | tup {a : Addr} {xs : List D} {vs : List V} : SqT K H a vs → RDs H m xs vs → RD H m (.tup xs) (.ref a)
  | lst {a : Addr} {o : Obj} {xs : List D} {vs : List V} : H a = some (.frz o (.lst vs)) → RDs H m xs vs → RD H m (.lst xs) (.ref a)
  | ref {n : Nat} {a : Addr} : m[n]? = some a → RD H m (.ref n) (.ref a)
  | scr {a : Addr} {xs : List D} {vs : List V} : SqS K H a vs → RDs H m xs vs → RD H m (.scr xs) (.ref a)
inductive RDs (H : L2.Hp) (m : List Addr) : List D → List V → Prop
  | nil : RDs H m [] []
  | cons {d : D} {ds : List D} {v : V} {vs : List V} : RD H m d v → RDs H m ds vs → RDs H m (d :: ds) (v :: vs)
end
end
/-- later: our heap has grown, what is never changed stands, what is not ours stands -/
structure Ext (m m' : List Addr) (H H' : L2.Hp) : Prop where
  pre : ∃ t, m' = m ++ t ∧ ∀ p ∈ t, H p = none
  tup : ∀ a xs, H a = some (.tup xs) → H' a = some (.tup xs)
  frz : ∀ a o u, H a = some (.frz o u) → H' a = some (.frz o u)
  frm : ∀ a o, a ∉ m → H a = some o → H' a = some o
  old : ∀ a, H a ≠ none → H' a ≠ none
theorem Ext.refl {m : List Addr} {H : L2.Hp} : Ext m m H H := ⟨⟨[], by simp⟩, fun _ _ h => h, fun _ _ _ h => h, fun _ _ _ h => h, fun _ h => h⟩
theorem Ext.trans {m m1 m2 : List Addr} {H H1 H2 : L2.Hp} (a : Ext m m1 H H1) (b : Ext m1 m2 H1 H2) : Ext m m2 H H2 := by
  obtain ⟨t, rfl, nt⟩ := a.pre
  obtain ⟨u, rfl, nu⟩ := b.pre
  refine ⟨⟨t ++ u, by simp, fun p hp => ?_⟩, fun x xs h => b.tup x xs (a.tup x xs h), fun x o u h => b.frz x o u (a.frz x o u h), fun x o hx h => b.frm x o ?_ (a.frm x o hx h), fun x h => b.old x (a.old x h)⟩
  · rcases List.mem_append.mp hp with hp | hp
    · exact nt p hp
    · exact Classical.byContradiction fun z => a.old p z (nu p hp)
  · intro hm
    rcases List.mem_append.mp hm with hm | hm
    · exact hx hm
    · rw [nt x hm] at h
      cases h
theorem Ext.at {m m' : List Addr} {H H' : L2.Hp} (e : Ext m m' H H') {n : Nat} {a : Addr} (h : m[n]? = some a) : m'[n]? = some a := by
  obtain ⟨t, rfl, _⟩ := e.pre
  rw [List.getElem?_append_left (List.getElem?_eq_some_iff.mp h).1]
  exact h
/-- a new thing laid -/
theorem Ext.new {m : List Addr} {H : L2.Hp} {p : Addr} {o : HO} (h : H p = none) : Ext m m H (upd H p o) :=
  ⟨⟨[], by simp⟩, fun a xs e => by rw [upd_ne (ne_of_none e h)]; exact e, fun a x u e => by rw [upd_ne (ne_of_none e h)]; exact e, fun a x _ e => by rw [upd_ne (ne_of_none e h)]; exact e, fun a e => by
    have ne : a ≠ p := fun z => e (z ▸ h)
    rw [upd_ne ne]
    exact e⟩
theorem Ext.newM {m : List Addr} {H : L2.Hp} {p : Addr} {o : HO} (h : H p = none) : Ext m (m ++ [p]) H (upd H p o) :=
  ⟨⟨[p], rfl, fun q hq => by simp at hq; subst hq; exact h⟩, (Ext.new (m := m) h).tup, (Ext.new (m := m) h).frz, (Ext.new (m := m) h).frm, (Ext.new (m := m) h).old⟩
/-- a list of ours changed, or frozen -/
theorem Ext.wr {m : List Addr} {H : L2.Hp} {p : Addr} {xs : List V} {o : HO} (hp : p ∈ m) (h : H p = some (.lst xs)) : Ext m m H (upd H p o) :=
  ⟨⟨[], by simp⟩, fun a ys e => by rw [upd_ne (ne_of e h (by intro z; cases z))]; exact e, fun a x u e => by rw [upd_ne (ne_of e h (by intro z; cases z))]; exact e, fun a x na e => by
    have ne : a ≠ p := fun z => na (z ▸ hp)
    rw [upd_ne ne]
    exact e, fun a e => by
    by_cases z : a = p
    · subst z; rw [upd_same]; intro q; cases q
    · rw [upd_ne z]; exact e⟩
/-- what values lean on -/
structure Imm (m m' : List Addr) (H H' : L2.Hp) : Prop where
  pre : ∃ t, m' = m ++ t
  tup : ∀ a xs, H a = some (.tup xs) → H' a = some (.tup xs)
  frz : ∀ a o u, H a = some (.frz o u) → H' a = some (.frz o u)
theorem Ext.imm {m m' : List Addr} {H H' : L2.Hp} (e : Ext m m' H H') : Imm m m' H H' := ⟨let ⟨t, a, _⟩ := e.pre; ⟨t, a⟩, e.tup, e.frz⟩
theorem Imm.at {m m' : List Addr} {H H' : L2.Hp} (e : Imm m m' H H') {n : Nat} {a : Addr} (h : m[n]? = some a) : m'[n]? = some a := by
  obtain ⟨t, rfl⟩ := e.pre
  rw [List.getElem?_append_left (List.getElem?_eq_some_iff.mp h).1]
  exact h
/-- a list changed, whosever it is -/
theorem Imm.wr {m : List Addr} {H : L2.Hp} {p : Addr} {xs : List V} {o : HO} (h : H p = some (.lst xs)) : Imm m m H (upd H p o) :=
  ⟨⟨[], by simp⟩, fun a ys e => by rw [upd_ne (ne_of e h (by intro z; cases z))]; exact e, fun a x u e => by rw [upd_ne (ne_of e h (by intro z; cases z))]; exact e⟩
theorem Imm.sqt {K : PySem.W.Frag} {m m' : List Addr} {H H' : L2.Hp} (e : Imm m m' H H') {a : Addr} {vs : List V} (h : SqT K H a vs) : SqT K H' a vs := by
  rcases h with (h | ⟨o, h⟩) | h
  · exact .inl (.inl (e.tup _ _ h))
  · exact .inl (.inr ⟨o, e.frz _ _ _ h⟩)
  · exact .inr h
theorem Imm.sqs {K : PySem.W.Frag} {m m' : List Addr} {H H' : L2.Hp} (e : Imm m m' H H') {a : Addr} {vs : List V} (h : SqS K H a vs) : SqS K H' a vs := h.imp (fun ⟨o, q⟩ => ⟨o, e.frz _ _ _ q⟩) id
theorem Ext.sqt {K : PySem.W.Frag} {m m' : List Addr} {H H' : L2.Hp} (e : Ext m m' H H') {a : Addr} {vs : List V} (h : SqT K H a vs) : SqT K H' a vs := e.imm.sqt h
/-- a thing that was not there at the start changes -/
theorem Ext.side {m m' : List Addr} {H H' : L2.Hp} {p : Addr} {o : HO} (e : Ext m m' H H') (n : H p = none) : Ext m m' H (upd H' p o) := by
  have ne : ∀ a x, H a = some x → a ≠ p := fun a x q => ne_of_none q n
  refine ⟨e.pre, fun a xs q => ?_, fun a x u q => ?_, fun a x na q => ?_, fun a q => ?_⟩
  · rw [upd_ne (ne a _ q)]; exact e.tup a xs q
  · rw [upd_ne (ne a _ q)]; exact e.frz a x u q
  · rw [upd_ne (ne a _ q)]; exact e.frm a x na q
  · by_cases z : a = p
    · subst z; rw [upd_same]; intro w; cases w
    · rw [upd_ne z]; exact e.old a q
section
variable {K : PySem.W.Frag}
mutual
theorem RD.mono {m m' : List Addr} {H H' : L2.Hp} (e : Imm m m' H H') : ∀ (d : D) (v : V), RD K H m d v → RD K H' m' d v
  | .non, _, h => by cases h; exact .non
  | .bl b, _, h => by cases h; exact .bl b
  | .int i, _, h => by cases h; exact .int i
  | .str s, _, h => by cases h; exact .str s
  | .tup xs, _, h => by
    cases h with
    | tup a r => exact .tup (e.sqt a) (RDs.mono e xs _ r)
  | .lst xs, _, h => by
    cases h with
    | lst a r => exact .lst (e.frz _ _ _ a) (RDs.mono e xs _ r)
  | .scr xs, _, h => by
    cases h with
    | scr a r => exact .scr (e.sqs a) (RDs.mono e xs _ r)
  | .ref n, _, h => by
    cases h with
    | ref a => exact .ref (e.at a)
theorem RDs.mono {m m' : List Addr} {H H' : L2.Hp} (e : Imm m m' H H') : ∀ (ds : List D) (vs : List V), RDs K H m ds vs → RDs K H' m' ds vs
  | [], _, h => by cases h; exact .nil
  | d :: ds, _, h => by
    cases h with
    | cons a r => exact .cons (RD.mono e d _ a) (RDs.mono e ds _ r)
end
theorem RD.upI {m m' : List Addr} {H H' : L2.Hp} {d : D} {v : V} (h : RD K H m d v) (e : Imm m m' H H') : RD K H' m' d v := RD.mono e d v h
theorem RDs.upI {m m' : List Addr} {H H' : L2.Hp} {ds : List D} {vs : List V} (h : RDs K H m ds vs) (e : Imm m m' H H') : RDs K H' m' ds vs := RDs.mono e ds vs h
theorem RD.up {m m' : List Addr} {H H' : L2.Hp} {d : D} {v : V} (h : RD K H m d v) (e : Ext m m' H H') : RD K H' m' d v := RD.mono e.imm d v h
theorem RDs.up {m m' : List Addr} {H H' : L2.Hp} {ds : List D} {vs : List V} (h : RDs K H m ds vs) (e : Ext m m' H H') : RDs K H' m' ds vs := RDs.mono e.imm ds vs h
theorem RDs.length {m : List Addr} {H : L2.Hp} : ∀ {ds : List D} {vs : List V}, RDs K H m ds vs → ds.length = vs.length
  | _, _, .nil => rfl
  | _, _, .cons _ r => congrArg Nat.succ r.length
theorem RDs.append {m : List Addr} {H : L2.Hp} : ∀ {ds es : List D} {vs ws : List V}, RDs K H m ds vs → RDs K H m es ws → RDs K H m (ds ++ es) (vs ++ ws)
  | _, _, _, _, .nil, s => s
  | _, _, _, _, .cons a r, s => .cons a (r.append s)
theorem RDs.get {m : List Addr} {H : L2.Hp} : ∀ {ds : List D} {vs : List V} {i : Nat} {d : D}, RDs K H m ds vs → ds[i]? = some d → ∃ v, vs[i]? = some v ∧ RD K H m d v
  | _, _, _, _, .nil, e => by simp at e
  | _, _, 0, _, .cons a _, e => by simp at e; subst e; exact ⟨_, by simp, a⟩
  | _, _, i + 1, d, .cons _ r, e => by
    obtain ⟨v, h1, h2⟩ := RDs.get (i := i) (d := d) r (by simpa using e)
    exact ⟨v, by simpa using h1, h2⟩
theorem RDs.back {m : List Addr} {H : L2.Hp} : ∀ {ds : List D} {vs : List V} {i : Nat} {v : V}, RDs K H m ds vs → vs[i]? = some v → ∃ d, ds[i]? = some d ∧ RD K H m d v
  | _, _, _, _, .nil, e => by simp at e
  | _, _, 0, _, .cons a _, e => by simp at e; subst e; exact ⟨_, by simp, a⟩
  | _, _, i + 1, v, .cons _ r, e => by
    obtain ⟨d, h1, h2⟩ := RDs.back (i := i) (v := v) r (by simpa using e)
    exact ⟨d, by simpa using h1, h2⟩
end
/-- what stands at a place of our heap stands at its address -/
def RO (K : PySem.W.Frag) (H : L2.Hp) (m : List Addr) : O → Addr → Prop
  | .lst xs, a => ∃ vs, H a = some (.lst vs) ∧ RDs K H m xs vs
  | .gone, _ => True
structure Hc (K : PySem.W.Frag) (m : List Addr) (h : Hp) (H : L2.Hp) : Prop where
  len : m.length = h.length
  nd : m.Nodup
  obj : ∀ (n : Nat) (o : O) (a : Addr), h[n]? = some o → m[n]? = some a → RO K H m o a
  old : ∀ a ∈ m, H a ≠ none
/-- the names -/
structure Lc (K : PySem.W.Frag) (m : List Addr) (H : L2.Hp) (σ : Lo) (σV : L2.St) : Prop where
  len : σ.length = σV.length
  loc : ∀ (i : Nat) (d : D), σ[i]? = some (some d) → ∃ v, σV[i]? = some (some v) ∧ RD K H m d v
theorem Lc.up {K : PySem.W.Frag} {m m' : List Addr} {H H' : L2.Hp} {σ : Lo} {σV : L2.St} (h : Lc K m H σ σV) (e : Ext m m' H H') : Lc K m' H' σ σV :=
  ⟨h.len, fun i d q => let ⟨v, a, b⟩ := h.loc i d q; ⟨v, a, b.up e⟩⟩
theorem Lc.set {K : PySem.W.Frag} {m : List Addr} {H : L2.Hp} {σ : Lo} {σV : L2.St} (h : Lc K m H σ σV) {i : Nat} {d : D} {v : V} (r : RD K H m d v) : Lc K m H (σ.set i (some d)) (σV.set i (some v)) := by
  refine ⟨by simp [h.len], fun j e q => ?_⟩
  by_cases hj : i = j
  · subst hj
    by_cases hl : i < σ.length
    · rw [List.getElem?_set_self hl] at q
      cases q
      exact ⟨v, List.getElem?_set_self (h.len ▸ hl), r⟩
    · rw [List.getElem?_eq_none (by simpa using hl)] at q
      cases q
  · rw [List.getElem?_set_ne hj] at q
    rw [List.getElem?_set_ne hj]
    exact h.loc j e q
theorem Lc.unset {K : PySem.W.Frag} {m : List Addr} {H : L2.Hp} {σ : Lo} {σV : L2.St} (h : Lc K m H σ σV) {i : Nat} {o : Option V} : Lc K m H (σ.set i none) (σV.set i o) := by
  refine ⟨by simp [h.len], fun j e q => ?_⟩
  by_cases hj : i = j
  · subst hj
    by_cases hl : i < σ.length
    · rw [List.getElem?_set_self hl] at q
      cases q
    · rw [List.getElem?_eq_none (by simpa using hl)] at q
      cases q
  · rw [List.getElem?_set_ne hj] at q
    rw [List.getElem?_set_ne hj]
    exact h.loc j e q
theorem Lc.wipe {K : PySem.W.Frag} {m : List Addr} {H : L2.Hp} {σ : Lo} {σV : L2.St} (h : Lc K m H σ σV) : ∀ vs : List Nat, Lc K m H (IP.wipe σ vs) (L2.wipe σV vs)
  | [] => h
  | v :: vs => (Lc.wipe h vs).unset
theorem Hc.new {K : PySem.W.Frag} {m : List Addr} {h : Hp} {H : L2.Hp} {p : Addr} {o : HO} (C : Hc K m h H) (n : H p = none) : Hc K m h (upd H p o) := by
  refine ⟨C.len, C.nd, fun k ob a e1 e2 => ?_, fun a ha => ?_⟩
  · have q := C.obj k ob a e1 e2
    cases ob with
    | gone => trivial
    | lst xs =>
      obtain ⟨vs, r1, r2⟩ := q
      exact ⟨vs, by rw [upd_ne (ne_of_none r1 n)]; exact r1, r2.up (Ext.new n)⟩
  · have q := C.old a ha
    have ne : a ≠ p := fun z => q (z ▸ n)
    rw [upd_ne ne]
    exact q

/-- a list that is not ours changes, or is frozen -/
theorem Hc.side {K : PySem.W.Frag} {m : List Addr} {h : Hp} {H : L2.Hp} {p : Addr} {xs : List V} {o : HO} (C : Hc K m h H) (np : p ∉ m) (q : H p = some (.lst xs)) : Hc K m h (upd H p o) := by
  refine ⟨C.len, C.nd, fun k ob a e1 e2 => ?_, fun a ha => ?_⟩
  · have z := C.obj k ob a e1 e2
    have na : a ≠ p := fun y => np (y ▸ List.mem_of_getElem? e2)
    cases ob with
    | gone => trivial
    | lst ys =>
      obtain ⟨vs, r1, r2⟩ := z
      exact ⟨vs, by rw [upd_ne na]; exact r1, r2.upI (Imm.wr q)⟩
  · have na : a ≠ p := fun y => np (y ▸ ha)
    rw [upd_ne na]
    exact C.old a ha

/-- the wish behind a run: post where it comes through, X where it raises -/
def WP {α : Type} (K : PySem.W.Frag) (X : Nat → L2.Hp → Prop) (m : List Addr) (H : L2.Hp) (r : R α) (post : α → Hp → List Addr → L2.Hp → Prop) : Prop := match r with
  | .ok a h => ∀ m' H', Ext m m' H H' → Hc K m' h H' → post a h m' H'
  | .exc c h => ∀ m' H', Ext m m' H H' → Hc K m' h H' → X c H'
  | .no => False
section
variable {α β : Type} {K : PySem.W.Frag} {X : Nat → L2.Hp → Prop} {m m1 : List Addr} {H H1 : L2.Hp} {post : α → Hp → List Addr → L2.Hp → Prop}
theorem WP.up {r : R α} (w : WP K X m H r post) (e : Ext m m1 H H1) : WP K X m1 H1 r post := by
  cases r with
  | ok a h => exact fun m' H' e' c => w m' H' (e.trans e') c
  | exc c h => exact fun m' H' e' c => w m' H' (e.trans e') c
  | no => exact w
theorem WP.bnd {r : R β} {f : β → Hp → R α} (w : WP K X m H (r.bnd f) post) : WP K X m H r fun a h m' H' => WP K X m' H' (f a h) post := by
  cases r with
  | ok a h => exact fun m' H' e c => WP.up w e
  | exc c h => exact w
  | no => exact w
theorem WP.imp {r : R α} {post' : α → Hp → List Addr → L2.Hp → Prop} (w : WP K X m H r post) (i : ∀ a h m' H', Ext m m' H H' → Hc K m' h H' → post a h m' H' → post' a h m' H') : WP K X m H r post' := by
  cases r with
  | ok a h => exact fun m' H' e c => i a h m' H' e c (w m' H' e c)
  | exc c h => exact w
  | no => exact w
theorem WP.opt {o : Option β} {f : β → R α} (w : WP K X m H (IP.opt o f) post) : ∃ b, o = some b ∧ WP K X m H (f b) post := by
  cases o with
  | none => exact w.elim
  | some b => exact ⟨b, rfl, w⟩
theorem WP.ok {a : α} {h : Hp} (w : WP K X m H (.ok a h) post) (C : Hc K m h H) : post a h m H := w m H Ext.refl C
theorem WP.calm {r : R α} (w : WP K X m H r.calm post) : WP K (fun _ _ => False) m H r post := by
  cases r with
  | ok a h => exact w
  | exc c h => exact w.elim
  | no => exact w.elim
end
end IP

namespace IP
open PySem PySem.Spec PyProof.Rows L2
/-! ### readings by the interpreter -/
section
variable (K : PySem.W.Frag) (cv : Nat → Value) (W : WX)
abbrev wx (σV : L2.St) : Nat → L2.Hp → Prop := fun c H' => W (cv c) none σV H'
def tE (e : E) : TE := fun σV H Q => ∃ m σ h, Lc K m H σ σV ∧ Hc K m h H ∧ WP K (wx cv W σV) m H (e σ h) fun d h' m' H' => ∀ v, RD K H' m' d v → Q v H'
def tT (e : T) : TT := fun σV H Q => ∃ m σ h, Lc K m H σ σV ∧ Hc K m h H ∧ WP K (wx cv W σV) m H (e σ h) fun b h' m' H' => Q b H'
def tA (e : A) : TA := fun σV H Q => ∃ m σ h, Lc K m H σ σV ∧ Hc K m h H ∧ WP K (wx cv W σV) m H (e σ h) fun ds h' m' H' => ∀ vs, RDs K H' m' ds vs → Q vs H'
def tG (g : G) : TG := fun v σV H Q => ∃ m d σ h, Lc K m H σ σV ∧ Hc K m h H ∧ RD K H m d v ∧ WP K (wx cv W σV) m H (g d σ h) fun σ' h' m' H' => ∀ σV', Lc K m' H' σ' σV' → Q σV' H'
def tGs (g : List D → Lo → Hp → R Lo) : TGs := fun vs σV H Q => ∃ m ds σ h, Lc K m H σ σV ∧ Hc K m h H ∧ RDs K H m ds vs ∧ WP K (wx cv W σV) m H (g ds σ h) fun σ' h' m' H' => ∀ σV', Lc K m' H' σ' σV' → Q σV' H'
/-- the wish behind a statement -/
def WS (D : Ends) (m : List Addr) (H : L2.Hp) (r : R Fl) : Prop := match r with
  | .ok (.nxt σ) h => ∀ m' H' σV, Ext m m' H H' → Hc K m' h H' → Lc K m' H' σ σV → D.nx σV H'
  | .ok (.brk σ) h => ∀ m' H' σV, Ext m m' H H' → Hc K m' h H' → Lc K m' H' σ σV → D.bk σV H'
  | .ok (.cnt σ) h => ∀ m' H' σV, Ext m m' H H' → Hc K m' h H' → Lc K m' H' σ σV → D.ct σV H'
  | .ok (.exc c σ) h => ∀ m' H' σV, Ext m m' H H' → Hc K m' h H' → Lc K m' H' σ σV → W (cv c) none σV H'
  | .ok (.ret d) h => ∀ m' H' v, Ext m m' H H' → Hc K m' h H' → RD K H' m' d v → D.rt v H'
  | _ => False
def tS (s : S) : TS := fun D σV H => ∃ m σ h, Lc K m H σ σV ∧ Hc K m h H ∧ WS K cv W D m H (s σ h)
end
section
variable {K : PySem.W.Frag} {cv : Nat → Value} {W : WX}
theorem WS.up {D : Ends} {m m1 : List Addr} {H H1 : L2.Hp} {r : R Fl} (w : WS K cv W D m H r) (e : Ext m m1 H H1) : WS K cv W D m1 H1 r := by
  cases r with
  | ok f h =>
    cases f with
    | nxt σ => exact fun m' H' σV e' => w m' H' σV (e.trans e')
    | brk σ => exact fun m' H' σV e' => w m' H' σV (e.trans e')
    | cnt σ => exact fun m' H' σV e' => w m' H' σV (e.trans e')
    | exc c σ => exact fun m' H' σV e' => w m' H' σV (e.trans e')
    | ret d => exact fun m' H' σV e' => w m' H' σV (e.trans e')
  | exc c h => exact w
  | no => exact w
/-- an expression within a statement -/
theorem WS.stm {α : Type} {D : Ends} {m : List Addr} {H : L2.Hp} {r : R α} {σ : Lo} {σV : L2.St} {f : α → Hp → R Fl} (L : Lc K m H σ σV) (w : WS K cv W D m H (r.stm σ f)) : WP K (wx cv W σV) m H r fun a h m' H' => WS K cv W D m' H' (f a h) := by
  cases r with
  | ok a h => exact fun m' H' e c => WS.up w e
  | exc c h => exact fun m' H' e C => w m' H' σV e C (L.up e)
  | no => exact w.elim

/-! ### what a part's reading hands on -/
variable {σV : L2.St} {H : L2.Hp} {m : List Addr} {σ : Lo} {h : Hp}
theorem tE.use {α : Type} {e : E} {k : D → Hp → R α} {post : α → Hp → List Addr → L2.Hp → Prop} {Q : VK} (L : Lc K m H σ σV) (C : Hc K m h H) (w : WP K (wx cv W σV) m H ((e σ h).bnd k) post)
    (q : ∀ d h1 m1 H1 v, Ext m m1 H H1 → Lc K m1 H1 σ σV → Hc K m1 h1 H1 → RD K H1 m1 d v → WP K (wx cv W σV) m1 H1 (k d h1) post → Q v H1) : tE K cv W e σV H Q :=
  ⟨m, σ, h, L, C, w.bnd.imp fun d h1 m1 H1 e1 C1 w1 v r => q d h1 m1 H1 v e1 (L.up e1) C1 r w1⟩
theorem tT.use {α : Type} {e : T} {k : Bool → Hp → R α} {post : α → Hp → List Addr → L2.Hp → Prop} {Q : Bool → L2.Hp → Prop} (L : Lc K m H σ σV) (C : Hc K m h H) (w : WP K (wx cv W σV) m H ((e σ h).bnd k) post)
    (q : ∀ d h1 m1 H1, Ext m m1 H H1 → Lc K m1 H1 σ σV → Hc K m1 h1 H1 → WP K (wx cv W σV) m1 H1 (k d h1) post → Q d H1) : tT K cv W e σV H Q :=
  ⟨m, σ, h, L, C, w.bnd.imp fun d h1 m1 H1 e1 C1 w1 => q d h1 m1 H1 e1 (L.up e1) C1 w1⟩
theorem tA.use {α : Type} {e : A} {k : List D → Hp → R α} {post : α → Hp → List Addr → L2.Hp → Prop} {Q : List V → L2.Hp → Prop} (L : Lc K m H σ σV) (C : Hc K m h H) (w : WP K (wx cv W σV) m H ((e σ h).bnd k) post)
    (q : ∀ d h1 m1 H1 v, Ext m m1 H H1 → Lc K m1 H1 σ σV → Hc K m1 h1 H1 → RDs K H1 m1 d v → WP K (wx cv W σV) m1 H1 (k d h1) post → Q v H1) : tA K cv W e σV H Q :=
  ⟨m, σ, h, L, C, w.bnd.imp fun d h1 m1 H1 e1 C1 w1 v r => q d h1 m1 H1 v e1 (L.up e1) C1 r w1⟩
/-- the part alone -/
theorem tE.last {e : E} {Q : VK} (L : Lc K m H σ σV) (C : Hc K m h H) (w : WP K (wx cv W σV) m H (e σ h) fun d h' m' H' => ∀ v, RD K H' m' d v → Q v H') : tE K cv W e σV H Q := ⟨m, σ, h, L, C, w⟩
theorem tE.stm {e : E} {k : D → Hp → R Fl} {De : Ends} {Q : VK} (L : Lc K m H σ σV) (C : Hc K m h H) (w : WS K cv W De m H ((e σ h).stm σ k))
    (q : ∀ d h1 m1 H1 v, Ext m m1 H H1 → Lc K m1 H1 σ σV → Hc K m1 h1 H1 → RD K H1 m1 d v → WS K cv W De m1 H1 (k d h1) → Q v H1) : tE K cv W e σV H Q :=
  ⟨m, σ, h, L, C, (WS.stm L w).imp fun d h1 m1 H1 e1 C1 w1 v r => q d h1 m1 H1 v e1 (L.up e1) C1 r w1⟩
theorem tT.stm {e : T} {k : Bool → Hp → R Fl} {De : Ends} {Q : Bool → L2.Hp → Prop} (L : Lc K m H σ σV) (C : Hc K m h H) (w : WS K cv W De m H ((e σ h).stm σ k))
    (q : ∀ d h1 m1 H1, Ext m m1 H H1 → Lc K m1 H1 σ σV → Hc K m1 h1 H1 → WS K cv W De m1 H1 (k d h1) → Q d H1) : tT K cv W e σV H Q :=
  ⟨m, σ, h, L, C, (WS.stm L w).imp fun d h1 m1 H1 e1 C1 w1 => q d h1 m1 H1 e1 (L.up e1) C1 w1⟩
end

/-! ### consequence -/
section
variable {X : Cx}
theorem pe_imp {e : Expr} {t t' : TE} (p : PE X e t) (i : ∀ σ H Q, t' σ H Q → t σ H Q) : PE X e t' := ⟨fun pins s σ H Q I q => p.run pins s σ H Q I (i σ H Q q)⟩
theorem pt_imp {e : Expr} {t t' : TT} (p : PT X e t) (i : ∀ σ H Q, t' σ H Q → t σ H Q) : PT X e t' := ⟨fun pins s σ H Q I q => p.run pins s σ H Q I (i σ H Q q)⟩
theorem pw_imp {e : Expr} {t t' : TT} (p : PW X e t) (i : ∀ σ H Q, t' σ H Q → t σ H Q) : PW X e t' := ⟨fun wh pins s σ H Q I q => p.run wh pins s σ H Q I (i σ H Q q)⟩
theorem pa_imp {es : List Expr} {t t' : TA} (p : PA X es t) (i : ∀ σ H Q, t' σ H Q → t σ H Q) : PA X es t' := ⟨fun pos pins s σ H Q I q => p.run pos pins s σ H Q I (i σ H Q q)⟩
theorem ps_imp {st : Stmt} {t t' : TS} (p : PS X st t) (i : ∀ D σ H, t' D σ H → t D σ H) : PS X st t' := ⟨fun pins s σ H D I q => p.run pins s σ H D I (i D σ H q)⟩
theorem pss_imp {st : List Stmt} {t t' : TS} (p : PSs X st t) (i : ∀ D σ H, t' D σ H → t D σ H) : PSs X st t' := ⟨fun pins s σ H D I q => p.run pins s σ H D I (i D σ H q)⟩
theorem pg_imp {e : Expr} {t t' : TG} (p : PG X e t) (i : ∀ v σ H Q, t' v σ H Q → t v σ H Q) : PG X e t' := ⟨fun pins s σ H v u Q I r q => p.run pins s σ H v u Q I r (i v σ H Q q)⟩
theorem pgs_imp {es : List Expr} {t t' : TGs} (p : PGs X es t) (i : ∀ v σ H Q, t' v σ H Q → t v σ H Q) : PGs X es t' := ⟨fun pins s σ H v u Q I r q => p.run pins s σ H v u Q I r (i v σ H Q q)⟩
theorem pi_imp {tg iter : Expr} {t t' : TI} (p : PI X tg iter t) (i : ∀ σ H Q, t' σ H Q → t σ H Q) : PI X tg iter t' := ⟨fun pins s σ H Q I q => p.run pins s σ H Q I (i σ H Q q)⟩
/-- a thing just made is frozen -/
def tFrz (t : TE) : TE := fun σ H Q => t σ H fun v H1 => ∃ a xs, v = .ref a ∧ H1 a = some (.lst xs) ∧ ∀ o, Q v (upd H1 a (.frz o (.lst xs)))
theorem pe_frz {e : Expr} {t : TE} (p : PE X e t) : PE X e (tFrz t) := ⟨fun pins s σ H Q I q => by
  refine thn (p.run pins s σ H _ I q) fun u s1 ⟨v, H1, I1, r, a, xs, e1, e2, q1⟩ => ?_
  subst e1
  obtain ⟨o, I2⟩ := I1.lock e2 trivial
  exact ⟨_, _, I2, r, q1 o⟩⟩
end
end IP

namespace IP
open PySem PySem.Spec PyProof.Rows L2
section
variable {X : Cx} {cv : Nat → Value} {W : WX} {a b c : Expr} {ea eb ec : E} {pos : Pos}
/-! ### names, constants -/
theorem snd_var {i : Nat} {x : Str} (hN : X.N[i]? = some x) (hv : Vis X.env.scope x) (hd : (x == ("__debug__" : Str)) = false := by decide) (hcd : (x == ("__classdict__" : Str)) = false := by decide) : PE X (.Name x pos) (tE X.K cv W (eLoc i)) := by
  refine pe_imp (pe_var hN hv hd hcd) fun σV H Q ⟨m, σ, h, L, C, w⟩ => ?_
  have w' : WP X.K (wx cv W σV) m H (match σ[i]? with
    | some (some d) => R.ok d h
    | _ => R.no) _ := w
  cases e : σ[i]? with
  | none => rw [e] at w'; exact w'.elim
  | some o =>
    cases o with
    | none => rw [e] at w'; exact w'.elim
    | some d =>
      rw [e] at w'
      obtain ⟨v, h1, r⟩ := L.loc i d e
      exact ⟨v, h1, WP.ok w' C v r⟩
theorem snd_cst {e : Expr} {v : V} {d : D} (p : PE X e (tC v)) (r : ∀ H m, RD X.K H m d v) : PE X e (tE X.K cv W (eCst d)) :=
  pe_imp p fun σV H Q ⟨m, σ, h, L, C, w⟩ => WP.ok (show WP _ _ _ _ (R.ok d h) _ from w) C v (r H m)
theorem snd_int {i : Int} {j} : PE X (.Constant (.int i) j pos) (tE X.K cv W (eCst (.int i))) := snd_cst pe_int fun _ _ => .int i
theorem snd_bl {i : Bool} {j} : PE X (.Constant (.bool i) j pos) (tE X.K cv W (eCst (.bl i))) := snd_cst pe_bl fun _ _ => .bl i
theorem snd_non {j} : PE X (.Constant .none j pos) (tE X.K cv W (eCst .non)) := snd_cst pe_non fun _ _ => .non
theorem snd_str {s : Str} {j} : PE X (.Constant (.str s) j pos) (tE X.K cv W (eCst (.str s))) := snd_cst pe_str fun _ _ => .str s
theorem snd_glob {x : Str} {v : V} {u : Value} {d : D} (hg : Gl X x) (hm : X.mg x = some u) (r : RelV v u) (q : ∀ H m, RD X.K H m d v) (hd : (x == ("__debug__" : Str)) = false := by decide) : PE X (.Name x pos) (tE X.K cv W (eCst d)) :=
  snd_cst (pe_glob hg hm r hd) q
end

/-! ### operators by values -/
abbrev Post := D → Hp → List Addr → L2.Hp → Prop
/-- f says what the operator by values does -/
def OpS (K : PySem.W.Frag) (f : D → D → Hp → R D) (r : R2) : Prop :=
  ∀ (x y : D) (v u : V) (E : Nat → L2.Hp → Prop) (m : List Addr) (h : Hp) (H : L2.Hp) (Q : VK), Hc K m h H → RD K H m x v → RD K H m y u → WP K E m H (f x y h) (fun d h' m' H' => ∀ v, RD K H' m' d v → Q v H') → r v u H Q
def UnS (K : PySem.W.Frag) (f : D → Hp → R D) (r : V → L2.Hp → VK → Prop) : Prop :=
  ∀ (x : D) (v : V) (E : Nat → L2.Hp → Prop) (m : List Addr) (h : Hp) (H : L2.Hp) (Q : VK), Hc K m h H → RD K H m x v → WP K E m H (f x h) (fun d h' m' H' => ∀ v, RD K H' m' d v → Q v H') → r v H Q
section
variable {K : PySem.W.Frag} {cv : Nat → Value} {W : WX} {ea eb ec : E}
theorem two_use {f : D → D → Hp → R D} {r : R2} (o : OpS K f r) {σV : L2.St} {H : L2.Hp} {Q : VK} (w : tE K cv W (two f ea eb) σV H Q) : tOp r (tE K cv W ea) (tE K cv W eb) σV H Q := by
  obtain ⟨m, σ, h, L, C, w⟩ := w
  refine tE.use L C w fun d h1 m1 H1 v e1 L1 C1 r1 w1 => tE.use L1 C1 w1 fun d2 h2 m2 H2 v2 e2 L2 C2 r2 w2 => ?_
  exact o _ _ _ _ _ _ _ _ _ C2 (r1.up e2) r2 w2
theorem one_use {f : D → Hp → R D} {r : V → L2.Hp → VK → Prop} (o : UnS K f r) {σV : L2.St} {H : L2.Hp} {Q : VK} (w : tE K cv W (one f ea) σV H Q) : tE K cv W ea σV H (fun x H1 => r x H1 Q) := by
  obtain ⟨m, σ, h, L, C, w⟩ := w
  exact tE.use L C w fun d h1 m1 H1 v e1 L1 C1 r1 w1 => o _ _ _ _ _ _ _ C1 r1 w1
theorem ops_sub : OpS K fSub (rI0 fun i j => .int (i - j)) := fun x y v u E m h H Q C rx ry w => by
  cases rx <;> cases ry <;> first | exact w.elim | skip
  rename_i i j
  exact ⟨i, j, rfl, rfl, WP.ok w C _ (.int _)⟩
theorem ops_mod : OpS K fMod (rI (fun _ j => 0 < j) fun i j => .int (i % j)) := fun x y v u E m h H Q C rx ry w => by
  cases rx <;> cases ry <;> first | exact w.elim | skip
  rename_i i j
  have w' : WP K E m H (if 0 < j then R.ok (D.int (i % j)) h else R.no) _ := w
  by_cases hj : 0 < j
  · rw [if_pos hj] at w'
    exact ⟨i, j, rfl, rfl, hj, WP.ok w' C _ (.int _)⟩
  · rw [if_neg hj] at w'
    exact w'.elim
theorem ops_fdv : OpS K fFdv (rI CDivW fun i j => .int (i / j)) := fun x y v u E m h H Q C rx ry w => by
  cases rx <;> cases ry <;> first | exact w.elim | skip
  rename_i i j
  have w' : WP K E m H (if (decide (0 < j) && decide (bits j < 9000)) = true then R.ok (D.int (i / j)) h else R.no) _ := w
  by_cases hj : (decide (0 < j) && decide (bits j < 9000)) = true
  · rw [if_pos hj] at w'
    obtain ⟨h1, h2⟩ := Bool.and_eq_true_iff.mp hj
    exact ⟨i, j, rfl, rfl, ⟨of_decide_eq_true h1, of_decide_eq_true h2⟩, WP.ok w' C _ (.int _)⟩
  · rw [if_neg hj] at w'
    exact w'.elim
theorem ops_pow : OpS K fPow (rI CPow fun i j => .int (i ^ j.toNat)) := fun x y v u E m h H Q C rx ry w => by
  cases rx <;> cases ry <;> first | exact w.elim | skip
  rename_i i j
  have w' : WP K E m H (if (decide (0 ≤ j) && decide (j ≤ 1000) && decide (0 ≤ i) && decide (i ≤ 1000)) = true then R.ok (D.int (i ^ j.toNat)) h else R.no) _ := w
  by_cases hj : (decide (0 ≤ j) && decide (j ≤ 1000) && decide (0 ≤ i) && decide (i ≤ 1000)) = true
  · rw [if_pos hj] at w'
    simp only [Bool.and_eq_true, decide_eq_true_eq] at hj
    exact ⟨i, j, rfl, rfl, ⟨hj.1.1.1, by omega, by omega⟩, WP.ok w' C _ (.int _)⟩
  · rw [if_neg hj] at w'
    exact w'.elim
theorem small_of {i : Int} (h : small i = true) : -(2 ^ 64) < i ∧ i < 2 ^ 64 := by
  unfold small at h
  simpa only [Bool.and_eq_true, decide_eq_true_eq] using h
/-- * of ints -/
def CMulA (i j : Int) : Prop := CMul i j ∨ CMulW i j
theorem op_mulA {X : Cx} : OpR X (binaryOp .Mult) (rI CMulA fun i j => .int (i * j)) := opI fun _ _ _ _ _ _ _ hc q => by
  rcases hc with hc | hc
  · exact mul_int q hc.ok
  · exact mul_int q hc.ok
theorem mulOk_of {i j : Int} (h : mulOk i j = true) : CMulA i j := by
  unfold mulOk at h
  rcases Bool.or_eq_true_iff.mp h with h | h
  · rcases Bool.or_eq_true_iff.mp h with h | h
    · exact .inl (.inl (small_of h))
    · exact .inl (.inr (small_of h))
  · exact .inr (of_decide_eq_true (p := bits i + bits j < 1000000) h)
theorem ops_cmp {p : Int → Int → Bool} : OpS K (fCmp p) (rI0 fun i j => .bl (p i j)) := fun x y v u E m h H Q C rx ry w => by
  cases rx <;> cases ry <;> first | exact w.elim | skip
  rename_i i j
  exact ⟨i, j, rfl, rfl, WP.ok w C _ (.bl _)⟩
theorem uns_neg : UnS K fNeg (rU fun i => .int (-i)) := fun x v E m h H Q C rx w => by
  cases rx <;> first | exact w.elim | skip
  rename_i i
  exact ⟨i, rfl, WP.ok w C _ (.int _)⟩
theorem uns_isN : UnS K fIsN (fun v H Q => Q (.bl (decide (v = .non))) H) := fun x v E m h H Q C rx w => by
  cases rx <;> exact WP.ok w C _ (.bl _)
theorem uns_notN : UnS K fNotN (fun v H Q => Q (.bl (!decide (v = .non))) H) := fun x v E m h H Q C rx w => by
  cases rx <;> exact WP.ok w C _ (.bl _)
/-! ### data as the library reads it -/
mutual
theorem RD.dp {m : List Addr} {H : L2.Hp} : ∀ (d : D) (v : V), RD K H m d v → (toP d).canLay0 = true → Dp K H v (toP d)
  | .non, _, h, _ => by cases h; exact .non
  | .bl b, _, h, _ => by cases h; exact .bl b
  | .int i, _, h, _ => by cases h; exact .int i
  | .str s, _, h, _ => by cases h; exact .str s
  | .tup xs, _, h, q => by
    cases h with
    | tup a r => exact .tup a (RDs.dp xs _ r (by simpa [toP, PyData.canLay0] using q))
  | .lst xs, _, h, q => by
    cases h with
    | lst a r => exact .lst (.inl (.inr ⟨_, a⟩)) (RDs.dp xs _ r (by simpa [toP, PyData.canLay0] using q))
  | .scr xs, _, h, q => by
    cases h with
    | scr a r => exact .lst a.sql (RDs.dp xs _ r (by simpa [toP, PyData.canLay0] using q))
  | .ref n, _, h, q => by simp [toP, PyData.canLay0] at q
theorem RDs.dp {m : List Addr} {H : L2.Hp} : ∀ (ds : List D) (vs : List V), RDs K H m ds vs → PyData.canLayAll0 (toPs ds) = true → DpAll K H vs (toPs ds)
  | [], _, h, _ => by cases h; exact .nil
  | d :: ds, _, h, q => by
    have q' : (toP d).canLay0 = true ∧ PyData.canLayAll0 (toPs ds) = true := by simpa [toPs, PyData.canLayAll0] using q
    cases h with
    | cons a r => exact .cons (RD.dp d _ a q'.1) (RDs.dp ds _ r q'.2)
end
theorem plain_of {d : D} (h : plain d = true) : (toP d).canLay0 = true ∧ SeqAt.shaped (toP d) = true :=
  ⟨(Bool.and_eq_true_iff.mp h).1, h⟩
theorem eqD_of {x y : D} {r : Bool} (h : eqD x y = some r) : plain x = true ∧ plain y = true ∧ r = PyData.eqv (toP x) (toP y) := by
  unfold eqD at h
  by_cases c : (plain x && plain y) = true
  · rw [if_pos c] at h
    cases h
    exact ⟨(Bool.and_eq_true_iff.mp c).1, (Bool.and_eq_true_iff.mp c).2, rfl⟩
  · rw [if_neg c] at h
    cases h
theorem ops_eq : OpS K fEq (rEqD K) := fun x y v u E m h H Q C rx ry w => by
  obtain ⟨r, e, w1⟩ := WP.opt w
  obtain ⟨p1, p2, rfl⟩ := eqD_of e
  exact ⟨toP x, toP y, RD.dp _ _ rx (plain_of p1).1, RD.dp _ _ ry (plain_of p2).1, (plain_of p1).2, (plain_of p2).2, WP.ok w1 C _ (.bl _)⟩
theorem ops_ne : OpS K fNe (rNeD K) := fun x y v u E m h H Q C rx ry w => by
  obtain ⟨r, e, w1⟩ := WP.opt w
  obtain ⟨p1, p2, rfl⟩ := eqD_of e
  exact ⟨toP x, toP y, RD.dp _ _ rx (plain_of p1).1, RD.dp _ _ ry (plain_of p2).1, (plain_of p1).2, (plain_of p2).2, WP.ok w1 C _ (.bl _)⟩
theorem any_toPs {xs : List D} {p : PyData → Bool} : (toPs xs).any p = xs.any fun y => p (toP y) := by
  induction xs with
  | nil => rfl
  | cons x r ih => simp [toPs, ih]
theorem memD_of {x : D} {xs : List D} {r : Bool} (h : memD x xs = some r) : plain x = true ∧ plain (.lst xs) = true ∧ r = (toPs xs).any fun z => PyData.eqv z (toP x) := by
  unfold memD at h
  by_cases c : (plain x && plain (.lst xs)) = true
  · rw [if_pos c] at h
    cases h
    exact ⟨(Bool.and_eq_true_iff.mp c).1, (Bool.and_eq_true_iff.mp c).2, (any_toPs (xs := xs) (p := fun z => PyData.eqv z (toP x))).symm⟩
  · rw [if_neg c] at h
    cases h
theorem ops_in : OpS K fIn (rInD K) := fun x y v u E m h H Q C rx ry w => by
  cases y with
  | lst xs =>
    obtain ⟨r, e, w1⟩ := WP.opt w
    obtain ⟨p1, p2, rfl⟩ := memD_of e
    exact ⟨toP x, toPs xs, RD.dp _ _ rx (plain_of p1).1, RD.dp _ _ ry (plain_of p2).1, (plain_of p1).2, (plain_of p2).2, WP.ok w1 C _ (.bl _)⟩
  | _ => exact w.elim
theorem ops_notIn : OpS K fNotIn (rNotInD K) := fun x y v u E m h H Q C rx ry w => by
  cases y with
  | lst xs =>
    obtain ⟨r, e, w1⟩ := WP.opt w
    obtain ⟨p1, p2, rfl⟩ := memD_of e
    exact ⟨toP x, toPs xs, RD.dp _ _ rx (plain_of p1).1, RD.dp _ _ ry (plain_of p2).1, (plain_of p1).2, (plain_of p2).2, WP.ok w1 C _ (.bl _)⟩
  | _ => exact w.elim
end
end IP

namespace IP
open PySem PySem.Spec PyProof.Rows L2
/-! ### what may be frozen -/
/-- wished now, or behind a freezing -/
def FQ (Q : VK) : VK := fun v H => Q v H ∨ ∃ a xs, v = .ref a ∧ H a = some (.lst xs) ∧ ∀ o, Q v (upd H a (.frz o (.lst xs)))
section
variable {X : Cx}
theorem pe_fq {e : Expr} {t : TE} (p : PE X e t) : PE X e (fun σ H Q => t σ H (FQ Q)) := ⟨fun pins s σ H Q I q => by
  refine thn (p.run pins s σ H _ I q) fun u s1 ⟨v, H1, I1, r, q1⟩ => ?_
  rcases q1 with q1 | ⟨a, xs, e1, e2, q1⟩
  · exact ⟨v, H1, I1, r, q1⟩
  · subst e1
    obtain ⟨o, I2⟩ := I1.lock e2 trivial
    exact ⟨_, _, I2, r, q1 o⟩⟩
end
section
variable {K : PySem.W.Frag} {E : Nat → L2.Hp → Prop} {m : List Addr} {h : Hp} {H : L2.Hp} {Q : VK} {xs : List D} {vs : List V}
/-- a new list is laid and frozen -/
theorem fq_new (C : Hc K m h H) (r : RDs K H m xs vs) (w : WP K E m H (R.ok (D.lst xs) h) fun d h' m' H' => ∀ v, RD K H' m' d v → Q v H') {p : Addr} (n : H p = none) : FQ Q (.ref p) (upd H p (.lst vs)) := by
  refine .inr ⟨p, vs, rfl, upd_same, fun o => ?_⟩
  rw [upd_upd]
  have e : Ext m m H (upd H p (.frz o (.lst vs))) := Ext.new n
  exact w m _ e (C.new n) _ (.lst upd_same (r.up e))
end
section
variable {X : Cx}
/-- the list's object, frozen or not -/
theorem lst_obj {pins : List (Addr × Obj)} {s : Shared} {σ : L2.St} {H : L2.Hp} {l : Addr} {xs : List V} (I : Inv X pins σ H s) (q : Rd H l (.lst xs)) :
    xs.length ≤ sizeLine ∧ ∃ (us : List Value) (n : Nat), Vals xs us ∧ s.heap.get? l = some { cls := .type "list", data := .seq us.toArray n } := by
  obtain ⟨z, us, n, r, e⟩ := q.ok I.hok
  exact ⟨z, us, n, r, e⟩
def rCatF : R2 := fun x y H Q => ∃ l b xs zs, x = .ref l ∧ y = .ref b ∧ Rd H l (.lst xs) ∧ Rd H b (.lst zs) ∧ xs.length + zs.length ≤ sizeLine ∧ ∀ p, H p = none → Q (.ref p) (upd H p (.lst (xs ++ zs)))
theorem op_catF : OpR X (binaryOp .Add) rCatF := fun pins s σ H x y v u Q I rx ry q => by
  obtain ⟨l, b, xs, zs, rfl, rfl, q1, q2, hz, q⟩ := q
  cases rx
  cases ry
  obtain ⟨_, us, n, r1, e1⟩ := lst_obj I q1
  obtain ⟨_, ws, k, r2, e2⟩ := lst_obj I q2
  refine PySem.P.add_list e1 e2 ?_ (by simp only [List.size_toArray]; rw [← r1.length, ← r2.length]; exact hz)
  have ap : us.toArray ++ ws.toArray = (us ++ ws).toArray := by simp
  rw [ap]
  exact ⟨.ref _, _, I.lnew (t' := s.toks) (r1.append r2) (by rw [List.length_append]; exact hz), rfl, q _ I.fresh⟩
def rRepF : R2 := fun x y H Q => ∃ l k xs, x = .ref l ∧ y = .int k ∧ Rd H l (.lst xs) ∧ -(2 ^ 63) ≤ k ∧ k < 2 ^ 63 ∧ xs.length * k.toNat ≤ sizeLine ∧ ∀ p, H p = none → Q (.ref p) (upd H p (.lst (List.replicate k.toNat xs).flatten))
theorem op_repF : OpR X (binaryOp .Mult) rRepF := fun pins s σ H x y v u Q I rx ry q => by
  obtain ⟨l, k, xs, rfl, rfl, q1, h1, h2, hz, q⟩ := q
  cases rx
  obtain ⟨t, rfl⟩ := ry
  obtain ⟨_, us, n, r, e⟩ := lst_obj I q1
  have sz : us.toArray.size * k.toNat ≤ sizeLine := by
    rw [List.size_toArray, ← r.length]
    exact hz
  have cap : ¬ us.toArray.size * k.toNat > (2 ^ 63 - 1) / 8 := by
    have q : (sizeLine : Nat) ≤ (2 ^ 63 - 1) / 8 := by decide
    omega
  have fit : ¬ (!Builtin.List.listFitsIndex k) = true := by
    rw [fitsIndex_both h1 h2]; decide
  have long : ¬ Builtin.List.listTooLong (us.toArray.size * k.toNat) = true := by
    rw [notLongL sz]; decide
  have fold : ∀ j : Nat, List.foldl (fun x1 x2 => x1 ++ x2) #[] (List.replicate j us.toArray) = (List.replicate j us).flatten.toArray := fun j => by
    have z := foldl_rep us j []
    rwa [List.nil_append] at z
  have made : List.foldl (fun x1 x2 => x1 ++ x2) #[] (List.replicate (if us.toArray.isEmpty = true then 0 else k.toNat) us.toArray) = (List.replicate k.toNat us).flatten.toArray := by
    rw [fold]
    cases us with
    | nil => simp
    | cons a us' => rw [if_neg (by simp)]
  refine wpAny_binaryOp_repeat_ref (T := "list") (U := "int") (by decide) ⟨_, e, rfl⟩ (fun s1 => typeIs_int s1 k t) noFill_list_mul F.fills_int_mul F.slot_int_rmul repeat_list F.slot_int_index.lookup ?_
  refine call_meets F.slot_int_rmul (typeIs_int s k t) F.entry_int_rmul (F.args_int_rmul_2 _ _) (int___rmul___int_list k t l us.toArray n) ⟨e, rfl, ⟨_, e, rfl⟩, ?_⟩
  refine call_meets F.slot_list_mul ⟨_, e, rfl⟩ F.entry_list_mul (F.args_list_mul_2 _ _) (AutoListH.list___mul___list_int_3 l us.toArray n k t fit cap long) ⟨e, ?_⟩
  rw [made]
  refine ⟨.ref s.heap.objs.size, _, I.lnew (t' := s.toks) (r.rep k.toNat) (by rw [PyProof.Rows.lm_len_rep_flat, Nat.mul_comm]; exact hz), rfl, q _ I.fresh⟩
end
theorem line1 {n : Nat} (h : n ≤ 100000) : n ≤ sizeLine := Nat.le_trans h (by decide)
theorem line2 {n : Nat} (h : n < 100000) : n < sizeLine := Nat.lt_of_lt_of_le h (by decide)
theorem RDs.rep {K : PySem.W.Frag} {m : List Addr} {H : L2.Hp} {xs : List D} {vs : List V} (r : RDs K H m xs vs) : ∀ k : Nat, RDs K H m (List.replicate k xs).flatten (List.replicate k vs).flatten
  | 0 => .nil
  | k + 1 => by
    simp only [List.replicate_succ, List.flatten_cons]
    exact r.append (RDs.rep r k)
/-- f says what an operator by values does; a list that comes new may be frozen -/
def OpF (K : PySem.W.Frag) (f : D → D → Hp → R D) (r : R2) : Prop :=
  ∀ (x y : D) (v u : V) (E : Nat → L2.Hp → Prop) (m : List Addr) (h : Hp) (H : L2.Hp) (Q : VK), Hc K m h H → RD K H m x v → RD K H m y u → WP K E m H (f x y h) (fun d h' m' H' => ∀ v, RD K H' m' d v → Q v H') → r v u H (FQ Q)
section
variable {K : PySem.W.Frag}
theorem opf_add : OpF K fAdd (fun x y H Q => (rI0 (fun i j => .int (i + j)) x y H Q ∨ rCatF x y H Q) ∨ rCatA K x y H Q) := fun x y v u E m h H Q C rx ry w => by
  cases rx with
  | int i =>
    cases ry with
    | int j => exact .inl (.inl ⟨i, j, rfl, rfl, .inl (WP.ok w C _ (.int _))⟩)
    | _ => exact w.elim
  | lst a r =>
    cases ry with
    | lst b r2 =>
      rename_i a o xs vs b p ys ws
      have w' : WP K E m H (if xs.length + ys.length ≤ 100000 then R.ok (D.lst (xs ++ ys)) h else R.no) _ := w
      by_cases c : xs.length + ys.length ≤ 100000
      · rw [if_pos c] at w'
        refine .inl (.inr ⟨_, _, vs, ws, rfl, rfl, .inr ⟨_, a⟩, .inr ⟨_, b⟩, ?_, fun p n => fq_new C (r.append r2) w' n⟩)
        rw [← r.length, ← r2.length]
        exact line1 c
      · rw [if_neg c] at w'
        exact w'.elim
    | _ => exact w.elim
  | @tup a xs vs qa r =>
    cases ry with
    | @tup b ys ws qb r2 =>
      have w' : WP K E m H (if xs.length + ys.length ≤ 100000 then R.ok (D.tup (xs ++ ys)) h else R.no) _ := w
      by_cases c : xs.length + ys.length ≤ 100000
      · rw [if_pos c] at w'
        refine .inr ⟨a, b, vs, ws, rfl, rfl, qa, qb, by rw [← r.length, ← r2.length]; exact line1 c, fun e => ?_, fun e1 e2 => ?_, fun e1 e2 p n => ?_⟩
        · subst e
          cases r
          exact .inl (WP.ok w' C _ (.tup qb r2))
        · subst e2
          cases r2
          rw [List.append_nil] at w'
          exact .inl (WP.ok w' C _ (.tup qa r))
        · have e : Ext m m H (upd H p (.tup (vs ++ ws))) := Ext.new n
          exact .inl (w' m _ e (C.new n) _ (.tup (.inl (.inl upd_same)) ((r.append r2).up e)))
      · rw [if_neg c] at w'
        exact w'.elim
    | _ => exact w.elim
  | _ => exact w.elim
theorem opf_mul : OpF K fMul (fun x y H Q => rI CMulA (fun i j => .int (i * j)) x y H Q ∨ rRepF x y H Q) := fun x y v u E m h H Q C rx ry w => by
  cases rx with
  | int i =>
    cases ry with
    | int j =>
      have w' : WP K E m H (if mulOk i j = true then R.ok (D.int (i * j)) h else R.no) _ := w
      by_cases c : mulOk i j = true
      · rw [if_pos c] at w'
        exact .inl ⟨i, j, rfl, rfl, mulOk_of c, .inl (WP.ok w' C _ (.int _))⟩
      · rw [if_neg c] at w'
        exact w'.elim
    | _ => exact w.elim
  | lst a r =>
    cases ry with
    | int k =>
      rename_i a o xs vs
      have w' : WP K E m H (if (decide (k ≤ 100000) && decide (-100000 ≤ k) && decide (xs.length * k.toNat ≤ 100000)) = true then R.ok (D.lst (List.replicate k.toNat xs).flatten) h else R.no) _ := w
      by_cases c : (decide (k ≤ 100000) && decide (-100000 ≤ k) && decide (xs.length * k.toNat ≤ 100000)) = true
      · rw [if_pos c] at w'
        simp only [Bool.and_eq_true, decide_eq_true_eq] at c
        refine .inr ⟨_, k, vs, rfl, rfl, .inr ⟨_, a⟩, by omega, by omega, ?_, fun p n => fq_new C (r.rep k.toNat) w' n⟩
        rw [← r.length]
        exact line1 c.2
      · rw [if_neg c] at w'
        exact w'.elim
    | _ => exact w.elim
  | _ => exact w.elim
end
section
variable {X : Cx} {cv : Nat → Value} {W : WX} {a b c : Expr} {ea eb ec : E} {pos : Pos}
theorem snd_bin {op : Operator} {f : D → D → Hp → R D} {r : R2} (ho : OpR X (binaryOp op) r) (o : OpS X.K f r) (ha : PE X a (tE X.K cv W ea)) (hb : PE X b (tE X.K cv W eb)) : PE X (.BinOp a op b pos) (tE X.K cv W (two f ea eb)) := pe_imp (pe_op ho ha hb) fun _ _ _ w => two_use o w
theorem snd_binF {op : Operator} {f : D → D → Hp → R D} {r : R2} (ho : OpR X (binaryOp op) r) (o : OpF X.K f r) (ha : PE X a (tE X.K cv W ea)) (hb : PE X b (tE X.K cv W eb)) : PE X (.BinOp a op b pos) (tE X.K cv W (two f ea eb)) :=
  pe_imp (pe_fq (pe_op ho ha hb)) fun σV H Q ⟨m, σ, h, L, C, w⟩ => tE.use L C w fun d h1 m1 H1 v e1 L1 C1 r1 w1 => tE.use L1 C1 w1 fun d2 h2 m2 H2 v2 e2 L2 C2 r2 w2 => o _ _ _ _ _ _ _ _ _ C2 (r1.up e2) r2 w2
theorem snd_add (ha : PE X a (tE X.K cv W ea)) (hb : PE X b (tE X.K cv W eb)) : PE X (.BinOp a .Add b pos) (tE X.K cv W (two fAdd ea eb)) := snd_binF ((op_add.or op_catF).or op_catA) opf_add ha hb
theorem snd_mul (ha : PE X a (tE X.K cv W ea)) (hb : PE X b (tE X.K cv W eb)) : PE X (.BinOp a .Mult b pos) (tE X.K cv W (two fMul ea eb)) := snd_binF (op_mulA.or op_repF) opf_mul ha hb
theorem snd_sub (ha : PE X a (tE X.K cv W ea)) (hb : PE X b (tE X.K cv W eb)) : PE X (.BinOp a .Sub b pos) (tE X.K cv W (two fSub ea eb)) := snd_bin op_sub ops_sub ha hb
theorem snd_mod (ha : PE X a (tE X.K cv W ea)) (hb : PE X b (tE X.K cv W eb)) : PE X (.BinOp a .Mod b pos) (tE X.K cv W (two fMod ea eb)) := snd_bin op_mod ops_mod ha hb
theorem snd_fdv (ha : PE X a (tE X.K cv W ea)) (hb : PE X b (tE X.K cv W eb)) : PE X (.BinOp a .FloorDiv b pos) (tE X.K cv W (two fFdv ea eb)) := snd_bin op_fdivW ops_fdv ha hb
theorem snd_pow (ha : PE X a (tE X.K cv W ea)) (hb : PE X b (tE X.K cv W eb)) : PE X (.BinOp a .Pow b pos) (tE X.K cv W (two fPow ea eb)) := snd_bin op_pow ops_pow ha hb
theorem snd_neg (ha : PE X a (tE X.K cv W ea)) : PE X (.UnaryOp .USub a pos) (tE X.K cv W (one fNeg ea)) := pe_imp (pe_un un_neg ha) fun _ _ _ w => one_use uns_neg w
/-! comparisons: as values, as tests -/
theorem snd_cmp {op : CmpOp} {f : D → D → Hp → R D} {r : R2} (ho : OpR X (compareOp op) r) (o : OpS X.K f r) (ha : PE X a (tE X.K cv W ea)) (hb : PE X b (tE X.K cv W eb)) (hm : behindInMarks op b = false) : PE X (.Compare a [op] [b] pos) (tE X.K cv W (two f ea eb)) := pe_imp (pe_cmpR ho ha hb hm) fun _ _ _ w => two_use o w
theorem tval_use {e : E} {t : TE} (i : ∀ σV H Q, tE X.K cv W e σV H Q → t σV H Q) {σV : L2.St} {H : L2.Hp} {Q : Bool → L2.Hp → Prop} (w : tT X.K cv W (tVal e) σV H Q) : tTest t σV H Q := by
  obtain ⟨m, σ, h, L, C, w⟩ := w
  refine i _ _ _ (tE.use L C w fun d h1 m1 H1 v e1 L1 C1 r1 w1 => ?_)
  cases r1 with
  | bl b => exact ⟨b, rfl, WP.ok w1 C1⟩
  | _ => exact w1.elim
theorem snt_cmp {op : CmpOp} {f : D → D → Hp → R D} {r : R2} (ho : OpR X (compareOp op) r) (o : OpS X.K f r) (ha : PE X a (tE X.K cv W ea)) (hb : PE X b (tE X.K cv W eb)) (hm : behindInMarks op b = false) : PT X (.Compare a [op] [b] pos) (tT X.K cv W (tVal (two f ea eb))) :=
  pt_imp (pt_cmpR ho ha hb hm) fun _ _ _ w => tval_use (fun _ _ _ w => two_use o w) w
theorem snt_val {e : Expr} {s : E} (p : PE X e (tE X.K cv W s)) (he : ∀ whole, isTrue e X.env whole = (do let v ← whole; standAt e.pos; holding [v] (truthy v)) := by intro _; rfl) : PT X e (tT X.K cv W (tVal s)) :=
  pt_imp (pt_val p he) fun _ _ _ w => tval_use (fun _ _ _ w => w) w
theorem snd_isN {j} {p : Pos} (ha : PE X a (tE X.K cv W ea)) : PE X (.Compare a [.Is] [.Constant .none j p] pos) (tE X.K cv W (one fIsN ea)) := by
  refine pe_imp (pe_cmpR op_isN ha pe_non (nomark _)) fun σV H Q w => ?_
  obtain ⟨m, σ, h, L, C, w⟩ := w
  exact tE.use L C w fun d h1 m1 H1 v e1 L1 C1 r1 w1 => ⟨rfl, uns_isN _ _ _ _ _ _ _ C1 r1 w1⟩
theorem snd_notN {j} {p : Pos} (ha : PE X a (tE X.K cv W ea)) : PE X (.Compare a [.IsNot] [.Constant .none j p] pos) (tE X.K cv W (one fNotN ea)) := by
  refine pe_imp (pe_cmpR op_notN ha pe_non (nomark _)) fun σV H Q w => ?_
  obtain ⟨m, σ, h, L, C, w⟩ := w
  exact tE.use L C w fun d h1 m1 H1 v e1 L1 C1 r1 w1 => ⟨rfl, uns_notN _ _ _ _ _ _ _ C1 r1 w1⟩
theorem snt_isN {j} {p : Pos} (ha : PE X a (tE X.K cv W ea)) : PT X (.Compare a [.Is] [.Constant .none j p] pos) (tT X.K cv W (tVal (one fIsN ea))) :=
  pt_imp (pt_cmpR op_isN ha pe_non (nomark _)) fun _ _ _ w => tval_use (e := one fIsN ea) (fun σV H Q w => by
    obtain ⟨m, σ, h, L, C, w⟩ := w
    exact tE.use L C w fun d h1 m1 H1 v e1 L1 C1 r1 w1 => ⟨rfl, uns_isN _ _ _ _ _ _ _ C1 r1 w1⟩) w
theorem snt_notN {j} {p : Pos} (ha : PE X a (tE X.K cv W ea)) : PT X (.Compare a [.IsNot] [.Constant .none j p] pos) (tT X.K cv W (tVal (one fNotN ea))) :=
  pt_imp (pt_cmpR op_notN ha pe_non (nomark _)) fun _ _ _ w => tval_use (e := one fNotN ea) (fun σV H Q w => by
    obtain ⟨m, σ, h, L, C, w⟩ := w
    exact tE.use L C w fun d h1 m1 H1 v e1 L1 C1 r1 w1 => ⟨rfl, uns_notN _ _ _ _ _ _ _ C1 r1 w1⟩) w
end
end IP

namespace IP
open PySem PySem.Spec PyProof.Rows L2
section
variable {X : Cx} {cv : Nat → Value} {W : WX} {a b c : Expr} {ea eb ec : E} {ta tb tc : T} {pos : Pos}
/-! ### and, or, not -/
theorem snt_not (ha : PT X a (tT X.K cv W ta)) : PT X (.UnaryOp .Not a pos) (tT X.K cv W (tNot ta)) :=
  pt_imp (pt_not ha) fun σV H Q ⟨m, σ, h, L, C, w⟩ => tT.use L C w fun d h1 m1 H1 e1 L1 C1 w1 => WP.ok w1 C1
theorem snw_and1 (ha : PT X a (tT X.K cv W ta)) : PW X (.BoolOp .And [a] pos) (tT X.K cv W ta) := pw_and1 ha
theorem snw_or1 (ha : PT X a (tT X.K cv W ta)) : PW X (.BoolOp .Or [a] pos) (tT X.K cv W ta) := pw_or1 ha
theorem snw_and {rest : List Expr} (ha : PT X a (tT X.K cv W ta)) (hb : PW X (.BoolOp .And (b :: rest) pos) (tT X.K cv W tb)) : PW X (.BoolOp .And (a :: b :: rest) pos) (tT X.K cv W (tAnd ta tb)) :=
  pw_imp (pw_and ha hb) fun σV H Q ⟨m, σ, h, L, C, w⟩ => tT.use L C w fun d h1 m1 H1 e1 L1 C1 w1 => by
    cases d with
    | true => exact ⟨m1, σ, h1, L1, C1, w1⟩
    | false => exact WP.ok (a := false) (h := h1) w1 C1
theorem snw_or {rest : List Expr} (ha : PT X a (tT X.K cv W ta)) (hb : PW X (.BoolOp .Or (b :: rest) pos) (tT X.K cv W tb)) : PW X (.BoolOp .Or (a :: b :: rest) pos) (tT X.K cv W (tOr ta tb)) :=
  pw_imp (pw_or ha hb) fun σV H Q ⟨m, σ, h, L, C, w⟩ => tT.use L C w fun d h1 m1 H1 e1 L1 C1 w1 => by
    cases d with
    | false => exact ⟨m1, σ, h1, L1, C1, w1⟩
    | true => exact WP.ok (a := true) (h := h1) w1 C1
theorem snd_one {op} (ha : PE X a (tE X.K cv W ea)) : PE X (.BoolOp op [a] pos) (tE X.K cv W ea) := pe_one ha
theorem snd_and {rest : List Expr} (ha : PE X a (tE X.K cv W ea)) (hb : PE X (.BoolOp .And (b :: rest) pos) (tE X.K cv W eb)) : PE X (.BoolOp .And (a :: b :: rest) pos) (tE X.K cv W (eAnd ea eb)) :=
  pe_imp (pe_and ha hb) fun σV H Q ⟨m, σ, h, L, C, w⟩ => tE.use L C w fun d h1 m1 H1 v e1 L1 C1 r1 w1 => by
    cases r1 with
    | bl k =>
      refine ⟨k, rfl, ?_⟩
      cases k with
      | true => exact ⟨m1, σ, h1, L1, C1, w1⟩
      | false => exact WP.ok (a := D.bl false) (h := h1) w1 C1 _ (.bl _)
    | _ => exact w1.elim
theorem snd_or {rest : List Expr} (ha : PE X a (tE X.K cv W ea)) (hb : PE X (.BoolOp .Or (b :: rest) pos) (tE X.K cv W eb)) : PE X (.BoolOp .Or (a :: b :: rest) pos) (tE X.K cv W (eOr ea eb)) :=
  pe_imp (pe_or ha hb) fun σV H Q ⟨m, σ, h, L, C, w⟩ => tE.use L C w fun d h1 m1 H1 v e1 L1 C1 r1 w1 => by
    cases r1 with
    | bl k =>
      refine ⟨k, rfl, ?_⟩
      cases k with
      | false => exact ⟨m1, σ, h1, L1, C1, w1⟩
      | true => exact WP.ok (a := D.bl true) (h := h1) w1 C1 _ (.bl _)
    | _ => exact w1.elim
theorem snd_not (ha : PE X a (tE X.K cv W ea)) : PE X (.UnaryOp .Not a pos) (tE X.K cv W (eNot ea)) :=
  pe_imp (pe_not ha) fun σV H Q ⟨m, σ, h, L, C, w⟩ => tE.use L C w fun d h1 m1 H1 v e1 L1 C1 r1 w1 => by
    cases r1 with
    | bl k => exact ⟨k, rfl, WP.ok (a := D.bl (!k)) (h := h1) w1 C1 _ (.bl _)⟩
    | _ => exact w1.elim
theorem snd_if {c : Expr} (hc : PT X c (tT X.K cv W tc)) (ha : PE X a (tE X.K cv W ea)) (hb : PE X b (tE X.K cv W eb)) : PE X (.IfExp c a b pos) (tE X.K cv W (eIf tc ea eb)) :=
  pe_imp (pe_ifExp hc ha hb) fun σV H Q ⟨m, σ, h, L, C, w⟩ => tT.use L C w fun d h1 m1 H1 e1 L1 C1 w1 => by
    cases d with
    | true => exact ⟨m1, σ, h1, L1, C1, w1⟩
    | false => exact ⟨m1, σ, h1, L1, C1, w1⟩
theorem chain_use {f g : D → D → Hp → R D} {r r' : R2} (o : OpS X.K f r) (o' : OpS X.K g r') {σV : L2.St} {H : L2.Hp} {Q : VK} (w : tE X.K cv W (eChain f g ea eb ec) σV H Q) : tChain r r' (tE X.K cv W ea) (tE X.K cv W eb) (tE X.K cv W ec) σV H Q := by
  obtain ⟨m, σ, h, L, C, w⟩ := w
  refine tE.use L C w fun d h1 m1 H1 v e1 L1 C1 r1 w1 => tE.use L1 C1 w1 fun d2 h2 m2 H2 v2 e2 L2 C2 r2 w2 => ?_
  have w3 := WP.bnd w2
  refine o _ _ _ _ _ _ _ _ _ C2 (r1.up e2) r2 (w3.imp fun z h3 m3 H3 e3 C3 w4 vz rz => ?_)
  have L3 := L2.up e3
  cases rz with
  | bl k =>
    refine ⟨k, rfl, ?_⟩
    cases k with
    | true => exact tE.use L3 C3 w4 fun d4 h4 m4 H4 v4 e4 L4 C4 r4 w5 => o' _ _ _ _ _ _ _ _ _ C4 (r2.up (e3.trans e4)) r4 w5
    | false => exact WP.ok (a := D.bl false) (h := h3) w4 C3 _ (.bl _)
  | _ => exact w4.elim
theorem snd_chain {op op' : CmpOp} {f g : D → D → Hp → R D} {r r' : R2} (ho : OpR X (compareOp op) r) (ho' : OpR X (compareOp op') r') (o : OpS X.K f r) (o' : OpS X.K g r') (ha : PE X a (tE X.K cv W ea)) (hb : PE X b (tE X.K cv W eb)) (hc : PE X c (tE X.K cv W ec))
    (hm : lastMarks [op, op'] [b, c] = false := by with_unfolding_all rfl) : PE X (.Compare a [op, op'] [b, c] pos) (tE X.K cv W (eChain f g ea eb ec)) := pe_imp (pe_chain ho ho' ha hb hc hm) fun _ _ _ w => chain_use o o' w
theorem snt_chain {op op' : CmpOp} {f g : D → D → Hp → R D} {r r' : R2} (ho : OpR X (compareOp op) r) (ho' : OpR X (compareOp op') r') (o : OpS X.K f r) (o' : OpS X.K g r') (ha : PE X a (tE X.K cv W ea)) (hb : PE X b (tE X.K cv W eb)) (hc : PE X c (tE X.K cv W ec))
    (hm : lastMarks [op, op'] [b, c] = false := by with_unfolding_all rfl) : PT X (.Compare a [op, op'] [b, c] pos) (tT X.K cv W (tVal (eChain f g ea eb ec))) :=
  pt_imp (pt_chain ho ho' ha hb hc hm) fun _ _ _ w => tval_use (fun _ _ _ w => chain_use o o' w) w

/-! ### arguments, displays -/
variable {e : Expr} {es : List Expr} {ee : E} {ae : A}
theorem sna_nil : PA X [] (tA X.K cv W aNil) := pa_imp pa_nil fun σV H Q ⟨m, σ, h, L, C, w⟩ => WP.ok (a := ([] : List D)) (h := h) w C [] .nil
theorem sna_cons (ha : PE X e (tE X.K cv W ee)) (hr : PA X es (tA X.K cv W ae)) (hs : starEach (e :: es) X.env = (false, eval e X.env) :: starEach es X.env := by rfl) : PA X (e :: es) (tA X.K cv W (aCons ee ae)) :=
  pa_imp (pa_cons ha hr hs) fun σV H Q ⟨m, σ, h, L, C, w⟩ => tE.use L C w fun d h1 m1 H1 v e1 L1 C1 r1 w1 => tA.use L1 C1 w1 fun ds h2 m2 H2 vs e2 L2 C2 r2 w2 =>
    WP.ok (a := d :: ds) (h := h2) w2 C2 _ (.cons (r1.up e2) r2)
theorem snd_tup {x1} (ha : PA X es (tA X.K cv W ae)) : PE X (.Tuple es x1 pos) (tE X.K cv W (eTup ae)) :=
  pe_imp (pe_tup ha) fun σV H Q ⟨m, σ, h, L, C, w⟩ => tA.use L C w fun ds h1 m1 H1 vs e1 L1 C1 r1 w1 => by
    by_cases c : ds.length ≤ 100000
    · rw [if_pos c] at w1
      refine ⟨by rw [← r1.length]; exact line1 c, fun p n => ?_⟩
      have e2 : Ext m1 m1 H1 (upd H1 p (.tup vs)) := Ext.new n
      exact w1 m1 _ e2 (C1.new n) _ (.tup (.inl (.inl upd_same)) (r1.up e2))
    · rw [if_neg c] at w1
      exact w1.elim
theorem snd_lst (ha : PA X es (tA X.K cv W ae)) : PE X (.List es pos) (tE X.K cv W (eLst ae)) :=
  pe_imp (pe_fq (pe_lst ha)) fun σV H Q ⟨m, σ, h, L, C, w⟩ => tA.use L C w fun ds h1 m1 H1 vs e1 L1 C1 r1 w1 => by
    by_cases c : ds.length ≤ 100000
    · rw [if_pos c] at w1
      exact ⟨by rw [← r1.length]; exact line1 c, fun p n => fq_new C1 r1 w1 n⟩
    · rw [if_neg c] at w1
      exact w1.elim
/-- a new place -/
theorem Hc.put {K : PySem.W.Frag} {m : List Addr} {h : Hp} {H : L2.Hp} {p : Addr} {o : HO} {ob : O} (C : Hc K m h H) (n : H p = none) (r : RO K (upd H p o) (m ++ [p]) ob p) : Hc K (m ++ [p]) (h ++ [ob]) (upd H p o) := by
  have np : p ∉ m := fun z => C.old p z n
  refine ⟨by simp [C.len], ?_, fun k ob' a e1 e2 => ?_, fun a ha => ?_⟩
  · rw [List.nodup_append]
    exact ⟨C.nd, by simp, fun x hx y hy => by simp at hy; subst hy; exact fun z => np (z ▸ hx)⟩
  · by_cases hk : k < h.length
    · rw [List.getElem?_append_left hk] at e1
      rw [List.getElem?_append_left (C.len ▸ hk)] at e2
      have q := C.obj k ob' a e1 e2
      have na : a ≠ p := fun z => np (z ▸ List.mem_of_getElem? e2)
      cases ob' with
      | gone => trivial
      | lst xs =>
        obtain ⟨vs, r1, r2⟩ := q
        exact ⟨vs, by rw [upd_ne na]; exact r1, r2.up (Ext.newM n)⟩
    · have h1 : k = h.length := by
        have := (List.getElem?_eq_some_iff.mp e1).1
        simp at this
        omega
      subst h1
      rw [List.getElem?_append_right (Nat.le_refl _), Nat.sub_self] at e1
      rw [← C.len, List.getElem?_append_right (Nat.le_refl _), Nat.sub_self] at e2
      simp at e1 e2
      subst e1 e2
      exact r
  · rcases List.mem_append.mp ha with ha | ha
    · have na : a ≠ p := fun z => np (z ▸ ha)
      rw [upd_ne na]
      exact C.old a ha
    · simp at ha
      subst ha
      rw [upd_same]
      intro z
      cases z
theorem snd_mkl (ha : PA X es (tA X.K cv W ae)) : PE X (.List es pos) (tE X.K cv W (eMkl ae)) :=
  pe_imp (pe_lst ha) fun σV H Q ⟨m, σ, h, L, C, w⟩ => tA.use L C w fun ds h1 m1 H1 vs e1 L1 C1 r1 w1 => by
    by_cases c : ds.length ≤ 100000
    · rw [if_pos c] at w1
      refine ⟨by rw [← r1.length]; exact line1 c, fun p n => ?_⟩
      have e2 : Ext m1 (m1 ++ [p]) H1 (upd H1 p (.lst vs)) := Ext.newM n
      refine w1 (m1 ++ [p]) _ e2 (C1.put n ⟨vs, upd_same, r1.up e2⟩) _ (.ref ?_)
      rw [← C1.len, List.getElem?_append_right (Nat.le_refl _), Nat.sub_self]
      rfl
    · rw [if_neg c] at w1
      exact w1.elim
end
end IP

namespace IP
open PySem PySem.Spec PyProof.Rows L2
section
variable {K : PySem.W.Frag}
theorem RDs.intsV {m : List Addr} {H : L2.Hp} : ∀ {ds : List D} {vs : List V} {is : List Int}, RDs K H m ds vs → intsD ds = some is → vs = is.map V.int
  | _, _, _, .nil, e => by cases e; rfl
  | _, _, is, .cons a r, e => by
    cases a with
    | int i =>
      rename_i ds vs
      have e' : (match intsD ds with
        | some is => some (i :: is)
        | none => none) = some is := e
      cases q : intsD ds with
      | none => rw [q] at e'; cases e'
      | some js =>
        rw [q] at e'
        cases e'
        rw [r.intsV q]
        rfl
    | _ => cases e
theorem RDs.blsV {m : List Addr} {H : L2.Hp} : ∀ {ds : List D} {vs : List V} {is : List Bool}, RDs K H m ds vs → blsD ds = some is → vs = is.map V.bl
  | _, _, _, .nil, e => by cases e; rfl
  | _, _, is, .cons a r, e => by
    cases a with
    | bl i =>
      rename_i ds vs
      have e' : (match blsD ds with
        | some is => some (i :: is)
        | none => none) = some is := e
      cases q : blsD ds with
      | none => rw [q] at e'; cases e'
      | some js =>
        rw [q] at e'
        cases e'
        rw [r.blsV q]
        rfl
    | _ => cases e
/-- a built-in of one argument -/
def BiS (K : PySem.W.Frag) (f : D → Hp → R D) (r : List V → L2.Hp → VK → Prop) : Prop :=
  ∀ (x : D) (v : V) (E : Nat → L2.Hp → Prop) (m : List Addr) (h : Hp) (H : L2.Hp) (Q : VK), Hc K m h H → RD K H m x v → WP K E m H (f x h) (fun d h' m' H' => ∀ v, RD K H' m' d v → Q v H') → r [v] H (FQ Q)
def BiS2 (K : PySem.W.Frag) (f : D → D → Hp → R D) (r : List V → L2.Hp → VK → Prop) : Prop :=
  ∀ (x y : D) (v u : V) (E : Nat → L2.Hp → Prop) (m : List Addr) (h : Hp) (H : L2.Hp) (Q : VK), Hc K m h H → RD K H m x v → RD K H m y u → WP K E m H (f x y h) (fun d h' m' H' => ∀ v, RD K H' m' d v → Q v H') → r [v, u] H (FQ Q)
theorem bis_len : BiS K fLen (fun xs H Q => ∃ p ys, xs = [.ref p] ∧ (SqL K H p ys ∨ SqT K H p ys) ∧ Q (.int ys.length) H) := fun x v E m h H Q C rx w => by
  obtain ⟨ds, e, w1⟩ := WP.opt w
  cases rx with
  | tup a r => cases e; exact ⟨_, _, rfl, .inr a, .inl (by rw [← r.length]; exact WP.ok w1 C _ (.int _))⟩
  | lst a r => cases e; exact ⟨_, _, rfl, .inl (.inl (.inr ⟨_, a⟩)), .inl (by rw [← r.length]; exact WP.ok w1 C _ (.int _))⟩
  | scr a r => cases e; exact ⟨_, _, rfl, .inl a.sql, .inl (by rw [← r.length]; exact WP.ok w1 C _ (.int _))⟩
  | _ => cases e
theorem bis_list : BiS K fList (fun xs H Q => ∃ p ys, xs = [.ref p] ∧ (SqL K H p ys ∨ SqT K H p ys) ∧ ∀ l, H l = none → Q (.ref l) (upd H l (.lst ys))) := fun x v E m h H Q C rx w => by
  obtain ⟨ds, e, w1⟩ := WP.opt w
  cases rx with
  | tup a r => cases e; exact ⟨_, _, rfl, .inr a, fun p n => fq_new C r w1 n⟩
  | lst a r => cases e; exact ⟨_, _, rfl, .inl (.inl (.inr ⟨_, a⟩)), fun p n => fq_new C r w1 n⟩
  | _ => cases e
theorem bis_sum : BiS K fSum (rSum K) := fun x v E m h H Q C rx w => by
  cases rx with
  | lst a r =>
    obtain ⟨is, e, w1⟩ := WP.opt w
    have q := r.intsV e
    subst q
    exact ⟨_, is, rfl, .inl (.inr ⟨_, a⟩), .inl (WP.ok w1 C _ (.int _))⟩
  | _ => exact w.elim
theorem bis_any : BiS K fAny (rAny K) := fun x v E m h H Q C rx w => by
  cases rx with
  | lst a r =>
    obtain ⟨is, e, w1⟩ := WP.opt w
    have q := r.blsV e
    subst q
    exact ⟨_, is, rfl, .inl (.inr ⟨_, a⟩), .inl (WP.ok w1 C _ (.bl _))⟩
  | _ => exact w.elim
theorem bis_all : BiS K fAll (rAll K) := fun x v E m h H Q C rx w => by
  cases rx with
  | lst a r =>
    obtain ⟨is, e, w1⟩ := WP.opt w
    have q := r.blsV e
    subst q
    exact ⟨_, is, rfl, .inl (.inr ⟨_, a⟩), .inl (WP.ok w1 C _ (.bl _))⟩
  | _ => exact w.elim
theorem bis_max : BiS2 K fMax (fun xs H Q => ∃ i j, xs = [.int i, .int j] ∧ Q (.int (if j > i then j else i)) H) := fun x y v u E m h H Q C rx ry w => by
  cases rx <;> cases ry <;> first | exact w.elim | skip
  exact ⟨_, _, rfl, .inl (WP.ok w C _ (.int _))⟩
theorem bis_min : BiS2 K fMin (fun xs H Q => ∃ i j, xs = [.int i, .int j] ∧ Q (.int (if j < i then j else i)) H) := fun x y v u E m h H Q C rx ry w => by
  cases rx <;> cases ry <;> first | exact w.elim | skip
  exact ⟨_, _, rfl, .inl (WP.ok w C _ (.int _))⟩
/-! isinstance -/
def tyN : Ty → String
  | .int => "int" | .bool => "bool" | .str => "str" | .tuple => "tuple" | .list => "list"
theorem kb_non : ∀ t, kitB "NoneType" (tyN t) = some (isTy t .non) := fun t => by cases t <;> decide +kernel
theorem kb_bl : ∀ t, kitB "bool" (tyN t) = some (isTy t (.bl true)) := fun t => by cases t <;> decide +kernel
theorem kb_int : ∀ t, kitB "int" (tyN t) = some (isTy t (.int 0)) := fun t => by cases t <;> decide +kernel
theorem kb_str : ∀ t, kitB "str" (tyN t) = some (isTy t (.str Str.empty)) := fun t => by cases t <;> decide +kernel
theorem kb_tup : ∀ t, kitB "tuple" (tyN t) = some (isTy t (.tup [])) := fun t => by cases t <;> decide +kernel
theorem kb_lst : ∀ t, kitB "list" (tyN t) = some (isTy t (.lst [])) := fun t => by cases t <;> decide +kernel
theorem RD.ty {m : List Addr} {H : L2.Hp} {d : D} {v : V} (r : RD K H m d v) (hn : ∀ n, d ≠ .ref n) (hs : ∀ xs, d ≠ .scr xs) : ∃ t, TyX K H v (.type t) ∧ ∀ t', kitB t (tyN t') = some (isTy t' d) := by
  cases r with
  | non => exact ⟨_, .base .non, kb_non⟩
  | bl b => exact ⟨_, .base (.bl b), fun t => (kb_bl t).trans (by cases t <;> rfl)⟩
  | int i => exact ⟨_, .base (.int i), fun t => (kb_int t).trans (by cases t <;> rfl)⟩
  | str s => exact ⟨_, .base (.str s), fun t => (kb_str t).trans (by cases t <;> rfl)⟩
  | tup a r =>
    rcases a with (a | ⟨o, a⟩) | ⟨o, its, n, l, c, _⟩
    · exact ⟨_, .base (.tup a), fun t => (kb_tup t).trans (by cases t <;> rfl)⟩
    · exact ⟨_, .fTuple a, fun t => (kb_tup t).trans (by cases t <;> rfl)⟩
    · exact ⟨_, .kTuple l c, fun t => (kb_tup t).trans (by cases t <;> rfl)⟩
  | lst a r => exact ⟨_, .base (.frz a), fun t => (kb_lst t).trans (by cases t <;> rfl)⟩
  | ref q => exact absurd rfl (hn _)
  | scr a r => exact absurd rfl (hs _)
end
section
variable {X : Cx} {cv : Nat → Value} {W : WX} {a b c e : Expr} {ea eb ec : E} {ae : A} {es : List Expr} {pos p : Pos} {x : Str}
theorem snd_b1 {id : String} {f : D → Hp → R D} {r : List V → L2.Hp → VK → Prop} (hc : CallR X (.builtin id) r) (o : BiS X.K f r) (hg : Gl X x) (hm : X.mg x = none) (hv : bootBuiltins x = some (.builtin id)) (ha : PE X e (tE X.K cv W ea)) (hn : x ≠ "__name__" := by decide) (hdb : (x == ("__debug__" : Str)) = false := by decide)
    (he : starEach [e] X.env = (false, eval e X.env) :: starEach [] X.env := by rfl) : PE X (.Call (.Name x p) [e] [] pos) (tE X.K cv W (one f ea)) :=
  pe_imp (pe_fq (pe_callB hc hg hm hv (pa_cons ha pa_nil he) hn hdb he rfl)) fun σV H Q ⟨m, σ, h, L, C, w⟩ => tE.use L C w fun d h1 m1 H1 v e1 L1 C1 r1 w1 => o _ _ _ _ _ _ _ C1 r1 w1
theorem snd_ty1 {id : String} {f : D → Hp → R D} {r : List V → L2.Hp → VK → Prop} (hc : CallR X (.type id) r) (o : BiS X.K f r) (hg : Gl X x) (hm : X.mg x = none) (hv : bootBuiltins x = some (.type id)) (ha : PE X e (tE X.K cv W ea)) (hn : x ≠ "__name__" := by decide) (hdb : (x == ("__debug__" : Str)) = false := by decide)
    (he : starEach [e] X.env = (false, eval e X.env) :: starEach [] X.env := by rfl) : PE X (.Call (.Name x p) [e] [] pos) (tE X.K cv W (one f ea)) :=
  pe_imp (pe_fq (pe_callTy hc hg hm hv (pa_cons ha pa_nil he) hn hdb he rfl)) fun σV H Q ⟨m, σ, h, L, C, w⟩ => tE.use L C w fun d h1 m1 H1 v e1 L1 C1 r1 w1 => o _ _ _ _ _ _ _ C1 r1 w1
theorem snd_b2 {id : String} {f : D → D → Hp → R D} {r : List V → L2.Hp → VK → Prop} (hc : CallR X (.builtin id) r) (o : BiS2 X.K f r) (hg : Gl X x) (hm : X.mg x = none) (hv : bootBuiltins x = some (.builtin id)) (ha : PE X a (tE X.K cv W ea)) (hb : PE X b (tE X.K cv W eb)) (hn : x ≠ "__name__" := by decide) (hdb : (x == ("__debug__" : Str)) = false := by decide)
    (he : starEach [a, b] X.env = (false, eval a X.env) :: starEach [b] X.env := by rfl) (he2 : starEach [b] X.env = (false, eval b X.env) :: starEach [] X.env := by rfl) (hpl : (backTo pos (starEach [b] X.env)).any (·.1) = false := by rfl) : PE X (.Call (.Name x p) [a, b] [] pos) (tE X.K cv W (two f ea eb)) :=
  pe_imp (pe_fq (pe_callB hc hg hm hv (pa_cons ha (pa_cons hb pa_nil he2) he) hn hdb he hpl)) fun σV H Q ⟨m, σ, h, L, C, w⟩ => tE.use L C w fun d h1 m1 H1 v e1 L1 C1 r1 w1 => tE.use L1 C1 w1 fun d2 h2 m2 H2 v2 e2 L2 C2 r2 w2 => o _ _ _ _ _ _ _ _ _ C2 (r1.up e2) r2 w2
theorem boot_any : bootBuiltins "any" = some (.builtin "any") := by decide +kernel
theorem boot_all : bootBuiltins "all" = some (.builtin "all") := by decide +kernel
theorem boot_sum : bootBuiltins "sum" = some (.builtin "sum") := by decide +kernel
theorem boot_max : bootBuiltins "max" = some (.builtin "max") := by decide +kernel
theorem boot_min : bootBuiltins "min" = some (.builtin "min") := by decide +kernel
theorem boot_isi : bootBuiltins "isinstance" = some (.builtin "isinstance") := by decide +kernel
theorem boot_lst : bootBuiltins "list" = some (.type "list") := by decide +kernel
theorem boot_len2 : bootBuiltins "len" = some (.builtin "len") := by decide +kernel
theorem snd_len (hg : Gl X "len") (hm : X.mg "len" = none) (ha : PE X e (tE X.K cv W ea)) (he : starEach [e] X.env = (false, eval e X.env) :: starEach [] X.env := by rfl) : PE X (.Call (.Name "len" p) [e] [] pos) (tE X.K cv W (one fLen ea)) := snd_b1 call_len_seq bis_len hg hm boot_len2 ha (by decide) (by decide) he
theorem snd_list (hg : Gl X "list") (hm : X.mg "list" = none) (ha : PE X e (tE X.K cv W ea)) (he : starEach [e] X.env = (false, eval e X.env) :: starEach [] X.env := by rfl) : PE X (.Call (.Name "list" p) [e] [] pos) (tE X.K cv W (one fList ea)) := snd_ty1 call_list_of bis_list hg hm boot_lst ha (by decide) (by decide) he
theorem snd_sum (hc : X.calm = true) (hg : Gl X "sum") (hm : X.mg "sum" = none) (ha : PE X e (tE X.K cv W ea)) (he : starEach [e] X.env = (false, eval e X.env) :: starEach [] X.env := by rfl) : PE X (.Call (.Name "sum" p) [e] [] pos) (tE X.K cv W (one fSum ea)) := snd_b1 (cr_sum hc) bis_sum hg hm boot_sum ha (by decide) (by decide) he
theorem snd_any (hc : X.calm = true) (hg : Gl X "any") (hm : X.mg "any" = none) (ha : PE X e (tE X.K cv W ea)) (he : starEach [e] X.env = (false, eval e X.env) :: starEach [] X.env := by rfl) : PE X (.Call (.Name "any" p) [e] [] pos) (tE X.K cv W (one fAny ea)) := snd_b1 (cr_any hc) bis_any hg hm boot_any ha (by decide) (by decide) he
theorem snd_all (hc : X.calm = true) (hg : Gl X "all") (hm : X.mg "all" = none) (ha : PE X e (tE X.K cv W ea)) (he : starEach [e] X.env = (false, eval e X.env) :: starEach [] X.env := by rfl) : PE X (.Call (.Name "all" p) [e] [] pos) (tE X.K cv W (one fAll ea)) := snd_b1 (cr_all hc) bis_all hg hm boot_all ha (by decide) (by decide) he
theorem snd_max (hc : X.calm = true) (hg : Gl X "max") (hm : X.mg "max" = none) (ha : PE X a (tE X.K cv W ea)) (hb : PE X b (tE X.K cv W eb))
    (he : starEach [a, b] X.env = (false, eval a X.env) :: starEach [b] X.env := by rfl) (he2 : starEach [b] X.env = (false, eval b X.env) :: starEach [] X.env := by rfl) (hpl : (backTo pos (starEach [b] X.env)).any (·.1) = false := by rfl) : PE X (.Call (.Name "max" p) [a, b] [] pos) (tE X.K cv W (two fMax ea eb)) := snd_b2 (call_max2 hc) bis_max hg hm boot_max ha hb (by decide) (by decide) he he2 hpl
theorem snd_min (hc : X.calm = true) (hg : Gl X "min") (hm : X.mg "min" = none) (ha : PE X a (tE X.K cv W ea)) (hb : PE X b (tE X.K cv W eb))
    (he : starEach [a, b] X.env = (false, eval a X.env) :: starEach [b] X.env := by rfl) (he2 : starEach [b] X.env = (false, eval b X.env) :: starEach [] X.env := by rfl) (hpl : (backTo pos (starEach [b] X.env)).any (·.1) = false := by rfl) : PE X (.Call (.Name "min" p) [a, b] [] pos) (tE X.K cv W (two fMin ea eb)) := snd_b2 (call_min2 hc) bis_min hg hm boot_min ha hb (by decide) (by decide) he he2 hpl
theorem snd_isi {t : Ty} {y : Str} {p2 : Pos} (hg : Gl X "isinstance") (hm : X.mg "isinstance" = none) (hgy : Gl X y) (hmy : X.mg y = none) (hy : bootBuiltins y = some (.type (tyN t))) (ha : PE X e (tE X.K cv W ea)) (hny : y ≠ "__name__" := by decide) (hdy : (y == ("__debug__" : Str)) = false := by decide)
    (he : starEach [e, .Name y p2] X.env = (false, eval e X.env) :: starEach [.Name y p2] X.env := by rfl) : PE X (.Call (.Name "isinstance" p) [e, .Name y p2] [] pos) (tE X.K cv W (one (fIs t) ea)) :=
  pe_imp (pe_callB call_isi hg hm boot_isi (pa_cons ha (pa_cons (pe_bltn (v := .ty (tyN t)) hgy hmy hy rfl hny hdy) pa_nil) he) (by decide) (by decide) he rfl) fun σV H Q ⟨m, σ, h, L, C, w⟩ => tE.use L C w fun d h1 m1 H1 v e1 L1 C1 r1 w1 => by
    have nr : ∀ n, d ≠ .ref n := fun n z => by subst z; exact w1.elim
    have ns : ∀ n, d ≠ .scr n := fun n z => by subst z; exact w1.elim
    obtain ⟨t0, h2, h3⟩ := r1.ty nr ns
    have w2 : WP X.K (wx cv W σV) m1 H1 (R.ok (D.bl (isTy t d)) h1) (fun d h' m' H' => ∀ v, RD X.K H' m' d v → Q v H') := by
      cases d with
      | ref n => exact absurd rfl (nr n)
      | scr n => exact absurd rfl (ns n)
      | _ => exact w1
    exact ⟨v, _, .type t0, .type (tyN t), isTy t d, rfl, .ty _, h2, kit_ty (h3 t), WP.ok w2 C1 _ (.bl _)⟩

/-! ### subscripts -/
theorem snd_idx (ha : PE X a (tE X.K cv W ea)) (hb : PE X b (tE X.K cv W eb)) (hs : PlainIx b := by exact fun _ _ => rfl) : PE X (.Subscript a b pos) (tE X.K cv W (two fIdx ea eb)) :=
  pe_imp (pe_ix (ix_list.or ix_tup) ha hb hs) fun σV H Q ⟨m, σ, h, L, C, w⟩ => tE.use L C w fun d h1 m1 H1 v e1 L1 C1 r1 w1 => tE.use L1 C1 w1 fun d2 h2 m2 H2 v2 e2 L2 C2 r2 w2 => by
    have r3 := r1.up e2
    cases d2 with
    | int i =>
      cases r2
      cases d with
      | tup xs =>
        cases r3 with
        | tup a r =>
          have w3 : WP X.K (wx cv W σV) m2 H2 (if 0 ≤ i then opt xs[i.toNat]? fun d => R.ok d h2 else R.no) _ := w2
          by_cases c : 0 ≤ i
          · rw [if_pos c] at w3
            obtain ⟨y, e, w4⟩ := WP.opt w3
            obtain ⟨vy, e5, r5⟩ := r.get e
            refine .inr ⟨_, _, i, vy, rfl, rfl, a, ?_, WP.ok w4 C2 _ r5⟩
            have z := atI_nat (j := i.toNat) e5
            rwa [Int.toNat_of_nonneg c] at z
          · rw [if_neg c] at w3
            exact w3.elim
      | lst xs =>
        cases r3 with
        | lst a r =>
          have w3 : WP X.K (wx cv W σV) m2 H2 (if 0 ≤ i then opt xs[i.toNat]? fun d => R.ok d h2 else R.no) _ := w2
          by_cases c : 0 ≤ i
          · rw [if_pos c] at w3
            obtain ⟨y, e, w4⟩ := WP.opt w3
            obtain ⟨vy, e5, r5⟩ := r.get e
            refine .inl ⟨_, _, i, vy, rfl, rfl, .inl (.inr ⟨_, a⟩), ?_, WP.ok w4 C2 _ r5⟩
            have z := atI_nat (j := i.toNat) e5
            rwa [Int.toNat_of_nonneg c] at z
          · rw [if_neg c] at w3
            exact w3.elim
      | scr xs =>
        cases r3 with
        | scr a r =>
          have w3 : WP X.K (wx cv W σV) m2 H2 (if 0 ≤ i then opt xs[i.toNat]? fun d => R.ok d h2 else R.no) _ := w2
          by_cases c : 0 ≤ i
          · rw [if_pos c] at w3
            obtain ⟨y, e, w4⟩ := WP.opt w3
            obtain ⟨vy, e5, r5⟩ := r.get e
            refine .inl ⟨_, _, i, vy, rfl, rfl, a.sql, ?_, WP.ok w4 C2 _ r5⟩
            have z := atI_nat (j := i.toNat) e5
            rwa [Int.toNat_of_nonneg c] at z
          · rw [if_neg c] at w3
            exact w3.elim
      | _ => exact w2.elim
    | _ => cases d <;> exact w2.elim

/-! ### defs -/
end
/-- what a def of ours promises: what f says -/
def spI (K : PySem.W.Frag) (cv : Nat → Value) (np : Nat) (f : Fn) : Sp := fun vs H Q E => ∃ m h ds, Hc K m h H ∧ RDs K H m ds vs ∧ vs.length = np ∧ WP K (fun c H' => E (cv c) none H') m H (f ds h) fun d h' m' H' => ∀ v, RD K H' m' d v → Q v H'
section
variable {X : Cx} {cv : Nat → Value} {W : WX} {e : Expr} {ae : A} {es : List Expr} {pos p : Pos} {x : Str}
theorem snd_call {k np : Nat} {f : Fn} {fa : Addr} {fd : FuncData} {ps : List Str} (F : FnOk X.prog X.w X.K X.mg X.base (L2.CX X.prog X.w) k fa fd ps (spI X.K cv np f)) (hl : ps.length = np) (hr : Room k X.A) (tk : Takes X W) (hg : Gl X x) (hm : X.mg x = some (.ref fa)) (hk : PySem.W.keepIn X.K (.ref fa) = true) (hb : Binds X.K fd ps [])
    (ha : PA X (e :: es) (tA X.K cv W ae)) (hdb : (x == ("__debug__" : Str)) = false := by decide) (he : starEach (e :: es) X.env = (false, eval e X.env) :: starEach es X.env := by rfl) (hpl : (backTo pos (starEach es X.env)).any (·.1) = false := by rfl) (hes : (e :: es).length = np := by rfl) :
    PE X (.Call (.Name x p) (e :: es) [] pos) (tE X.K cv W (eCall np f ae)) :=
  pe_imp (pe_callS F hr hg hm hk hb (fun σ => passAt tk σ) ha hdb he hpl) fun σV H Q ⟨m, σ, h, L, C, w⟩ => tA.use L C w fun ds h1 m1 H1 vs e1 L1 C1 r1 w1 => by
    by_cases c : ds.length = np
    · rw [if_pos c] at w1
      exact ⟨m1, h1, ds, C1, r1, by rw [← r1.length]; exact c, w1⟩
    · rw [if_neg c] at w1
      exact w1.elim
end
end IP

namespace IP
open PySem PySem.Spec PyProof.Rows L2
/-! ### which slots a target touches -/
/-- alike but at these slots -/
def Sm (ws : List Nat) (σ σ' : L2.St) : Prop := σ'.length = σ.length ∧ ∀ i, i ∉ ws → σ'[i]? = σ[i]?
theorem Sm.refl {ws : List Nat} {σ : L2.St} : Sm ws σ σ := ⟨rfl, fun _ _ => rfl⟩
theorem Sm.trans {ws : List Nat} {σ σ1 σ2 : L2.St} (a : Sm ws σ σ1) (b : Sm ws σ1 σ2) : Sm ws σ σ2 := ⟨b.1.trans a.1, fun i h => (b.2 i h).trans (a.2 i h)⟩
theorem Sm.wide {ws us : List Nat} {σ σ1 : L2.St} (a : Sm ws σ σ1) (h : ∀ i ∈ ws, i ∈ us) : Sm us σ σ1 := ⟨a.1, fun i hi => a.2 i fun z => hi (h i z)⟩
theorem wipe_at {σ : L2.St} : ∀ {ws : List Nat} {i : Nat}, (L2.wipe σ ws)[i]? = if i ∈ ws then (if i < σ.length then some none else none) else σ[i]?
  | [], i => by simp [L2.wipe]
  | v :: ws, i => by
    show ((L2.wipe σ ws).set v none)[i]? = _
    by_cases h : v = i
    · subst h
      by_cases hl : v < σ.length
      · rw [List.getElem?_set_self (by rw [L2.wipe_length]; exact hl)]
        simp [hl]
      · rw [List.getElem?_eq_none (by rw [List.length_set, L2.wipe_length]; omega)]
        simp [hl]
    · rw [List.getElem?_set_ne h, wipe_at]
      have e : (i ∈ v :: ws) = (i ∈ ws) := by simp [Ne.symm h]
      simp only [e]
theorem Sm.wipe {ws : List Nat} {σ σ' : L2.St} (h : Sm ws σ σ') : L2.wipe σ' ws = L2.wipe σ ws := by
  apply List.ext_getElem?
  intro i
  rw [wipe_at, wipe_at, h.1]
  by_cases hi : i ∈ ws
  · rw [if_pos hi, if_pos hi]
  · rw [if_neg hi, if_neg hi, h.2 i hi]
theorem Sm.set {i : Nat} {σ : L2.St} {o : Option V} : Sm [i] σ (σ.set i o) := ⟨by simp, fun j h => by
  have ne : i ≠ j := fun z => h (by simp [z])
  rw [List.getElem?_set_ne ne]⟩
section
variable (K : PySem.W.Frag) (cv : Nat → Value) (W : WX)
def tH (ws : List Nat) (g : G) : TG := fun v σV H Q => ∃ m d σ h, Lc K m H σ σV ∧ Hc K m h H ∧ RD K H m d v ∧ WP K (wx cv W σV) m H (g d σ h) fun σ' h' m' H' => ∀ σV', Lc K m' H' σ' σV' → Sm ws σV σV' → Q σV' H'
def tHs (ws : List Nat) (g : List D → Lo → Hp → R Lo) : TGs := fun vs σV H Q => ∃ m ds σ h, Lc K m H σ σV ∧ Hc K m h H ∧ RDs K H m ds vs ∧ WP K (wx cv W σV) m H (g ds σ h) fun σ' h' m' H' => ∀ σV', Lc K m' H' σ' σV' → Sm ws σV σV' → Q σV' H'
end
section
variable {X : Cx} {cv : Nat → Value} {pos : Pos}
abbrev W0 : WX := fun _ _ _ _ => False
theorem sng_name {W : WX} {i : Nat} {x : Str} (hN : X.N.Nodup) (hi : X.N[i]? = some x) (hx : Loc X.env.scope x) (hf : X.fn x = true ∨ X.env.scope.names.lookup x = some .local := by first | exact .inl rfl | exact .inr rfl | assumption) : PG X (.Name x pos) (tH X.K cv W [i] (gLoc i)) :=
  pg_imp (pg_name hN hi hx hf) fun v σV H Q ⟨m, d, σ, h, L, C, r, w⟩ => WP.ok (a := σ.set i (some d)) (h := h) w C _ (L.set r) Sm.set
theorem sngs_nil : PGs X [] (tHs X.K cv W0 [] gNil) :=
  pgs_imp pgs_nil fun vs σV H Q ⟨m, ds, σ, h, L, C, r, w⟩ => by
    cases r with
    | nil => exact ⟨rfl, WP.ok (a := σ) (h := h) w C _ L Sm.refl⟩
    | cons a r => exact w.elim
/-- nothing is raised by a target here: the wish is nowhere asked -/
theorem sngs_cons {ws us : List Nat} {e : Expr} {es : List Expr} {g : G} {r : List D → Lo → Hp → R Lo} (h1 : PG X e (tH X.K cv W0 ws g)) (h2 : PGs X es (tHs X.K cv W0 us r))
    (hs : (assignEach (e :: es) X.env).map (·.2) = assign e X.env :: (assignEach es X.env).map (·.2) := by rfl) : PGs X (e :: es) (tHs X.K cv W0 (ws ++ us) (gCons g r)) :=
  pgs_imp (pgs_cons h1 h2 hs) fun vs σV H Q ⟨m, ds, σ, h, L, C, rs, w⟩ => by
    cases rs with
    | nil => exact w.elim
    | @cons d ds v vs a rs =>
      refine ⟨v, vs, rfl, m, d, σ, h, L, C, a, (WP.bnd w).imp fun σ1 h1 m1 H1 e1 C1 w1 σV1 L1 s1 => ?_⟩
      refine ⟨m1, ds, σ1, h1, L1, C1, rs.up e1, w1.imp fun σ2 h2 m2 H2 e2 C2 q σV2 L2 s2 => q σV2 L2 ((s1.wide fun i hi => List.mem_append_left _ hi).trans (s2.wide fun i hi => List.mem_append_right _ hi))⟩
theorem sng_tup {ws : List Nat} {es : List Expr} {k n : Nat} {r : List D → Lo → Hp → R Lo} (hc : X.calm = true) (hp : PGs X es (tHs X.K cv W0 ws r))
    (hn : (assignEach es X.env).length = n := by rfl) (hst : (assignEach es X.env).findIdx? (·.1) = none := by rfl) : PG X (.Tuple es k pos) (tH X.K cv W0 ws (gTup n r)) :=
  pg_imp (pg_tup hc hp hn hst) fun v σV H Q ⟨m, d, σ, h, L, C, rd, w⟩ => by
    cases rd with
    | @tup a xs vs q rs =>
      have w' : WP X.K (wx cv W0 σV) m H (if xs.length = n then r xs σ h else R.no) _ := w
      by_cases c : xs.length = n
      · rw [if_pos c] at w'
        exact ⟨_, vs, rfl, q, by rw [← rs.length]; exact c, m, xs, σ, h, L, C, rs, w'⟩
      · rw [if_neg c] at w'
        exact w'.elim
    | _ => exact w.elim
end
/-- what raises nothing goes under any wish -/
theorem WP.nox {α : Type} {K : PySem.W.Frag} {E : Nat → L2.Hp → Prop} {m : List Addr} {H : L2.Hp} {r : R α} {post : α → Hp → List Addr → L2.Hp → Prop} (w : WP K (fun _ _ => False) m H r post) (C : ∀ c h, r = .exc c h → Hc K m h H) : WP K E m H r post := by
  cases r with
  | ok a h => exact w
  | exc c h => exact (w m H Ext.refl (C c h rfl)).elim
  | no => exact w

/-! ### what is walked -/
/-- the iterator hands out these -/
def Wk (K : PySem.W.Frag) (J : It) (m : List Addr) (xs : List D) (H0 : L2.Hp) : Prop := ∀ (i : Nat) (m' : List Addr) (H : L2.Hp), Ext m m' H0 H →
  (∀ x, xs[i]? = some x → J.go i H ∧ ∀ v H', J.yld i H v H' → Ext m' m' H H' ∧ (∀ h, Hc K m' h H → Hc K m' h H') ∧ RD K H' m' x v) ∧ (xs.length ≤ i → J.stop i H)
def tI (K : PySem.W.Frag) (cv : Nat → Value) (W : WX) (i : A) : TI := fun σV H R => ∃ m σ h, Lc K m H σ σV ∧ Hc K m h H ∧ WP K (wx cv W σV) m H (i σ h) fun xs h' m' H' => ∀ J, Wk K J m' xs H' → R J H'
section
variable {K : PySem.W.Frag} {m : List Addr} {H : L2.Hp} {xs : List D} {vs : List V} {a b : Addr}
theorem wk_list {o : Obj} (q : H a = some (.frz o (.lst vs))) (r : RDs K H m xs vs) : Wk K (Itl K a) m xs H := fun i m' H' e => by
  have q' : SqL K H' a vs := .inl (.inr ⟨o, e.frz _ _ _ q⟩)
  refine ⟨fun x hx => ?_, fun hi => ⟨vs, q', by rw [← r.length]; exact hi⟩⟩
  obtain ⟨v, hv, rv⟩ := (r.up e).get hx
  refine ⟨⟨vs, v, q', hv⟩, fun u H2 ⟨e1, e2⟩ => ?_⟩
  subst e1
  have e3 := e2 vs q'
  rw [hv] at e3
  cases e3
  exact ⟨Ext.refl, fun _ c => c, rv⟩
theorem wk_tup (q : SqT K H a vs) (r : RDs K H m xs vs) : Wk K (Itt K a) m xs H := fun i m' H' e => by
  have q' : SqT K H' a vs := e.sqt q
  refine ⟨fun x hx => ?_, fun hi => ⟨vs, q', by rw [← r.length]; exact hi⟩⟩
  obtain ⟨v, hv, rv⟩ := (r.up e).get hx
  refine ⟨⟨vs, v, q', hv⟩, fun u H2 ⟨e1, e2⟩ => ?_⟩
  subst e1
  have e3 := e2 vs q'
  rw [hv] at e3
  cases e3
  exact ⟨Ext.refl, fun _ c => c, rv⟩
theorem rng_at : ∀ (n : Nat) (lo : Int) (i : Nat), (rng lo n)[i]? = if i < n then some (D.int (lo + i)) else none
  | 0, lo, i => by simp [rng]
  | n + 1, lo, 0 => by simp [rng]
  | n + 1, lo, i + 1 => by
    show (rng (lo + 1) n)[i]? = _
    rw [rng_at n (lo + 1) i]
    by_cases h : i < n
    · rw [if_pos h, if_pos (by omega)]
      congr 2
      omega
    · rw [if_neg h, if_neg (by omega)]
theorem rng_len (n : Nat) (lo : Int) : (rng lo n).length = n := by
  induction n generalizing lo with
  | zero => rfl
  | succ n ih => show (rng (lo + 1) n).length + 1 = n + 1; rw [ih]
theorem wk_rng {lo : Int} {n : Nat} : Wk K (Itr lo n) m (rng lo n) H := fun i m' H' e => by
  refine ⟨fun x hx => ?_, fun hi => by rw [rng_len] at hi; exact hi⟩
  rw [rng_at] at hx
  by_cases h : i < n
  · rw [if_pos h] at hx
    cases hx
    exact ⟨h, fun v H2 ⟨e1, e2⟩ => by subst e1 e2; exact ⟨Ext.refl, fun _ c => c, .int _⟩⟩
  · rw [if_neg h] at hx
    cases hx
theorem zip_at : ∀ (xs ys : List D) (i : Nat) (z : D), (zipD xs ys)[i]? = some z → ∃ x y, xs[i]? = some x ∧ ys[i]? = some y ∧ z = .tup [x, y]
  | [], _, i, z, h => by simp [zipD] at h
  | _ :: _, [], i, z, h => by simp [zipD] at h
  | x :: xs, y :: ys, 0, z, h => by
    have e : D.tup [x, y] = z := by simpa [zipD] using h
    exact ⟨x, y, rfl, rfl, e.symm⟩
  | x :: xs, y :: ys, i + 1, z, h => by
    obtain ⟨u, w, h1, h2, h3⟩ := zip_at xs ys i z (by simpa [zipD] using h)
    exact ⟨u, w, by simpa using h1, by simpa using h2, h3⟩
theorem zip_len : ∀ (xs ys : List D), (zipD xs ys).length = min xs.length ys.length
  | [], ys => by simp [zipD]
  | x :: xs, [] => by simp [zipD]
  | x :: xs, y :: ys => by
    show (zipD xs ys).length + 1 = min (xs.length + 1) (ys.length + 1)
    rw [zip_len xs ys]
    omega
theorem wk_zip {ys : List D} {us : List V} {o p : Obj} (q : H a = some (.frz o (.lst vs))) (r : RDs K H m xs vs) (q2 : H b = some (.frz p (.lst us))) (r2 : RDs K H m ys us) : Wk K (Itz K a b) m (zipD xs ys) H := fun i m' H' e => by
  have s1 : SqL K H' a vs := .inl (.inr ⟨o, e.frz _ _ _ q⟩)
  have s2 : SqL K H' b us := .inl (.inr ⟨p, e.frz _ _ _ q2⟩)
  refine ⟨fun z hz => ?_, fun hi => ⟨vs, us, s1, s2, ?_⟩⟩
  · obtain ⟨x, y, hx, hy, rfl⟩ := zip_at _ _ _ _ hz
    obtain ⟨v, hv, rv⟩ := (r.up e).get hx
    obtain ⟨u, hu, ru⟩ := (r2.up e).get hy
    refine ⟨⟨vs, us, v, u, s1, s2, hv, hu⟩, fun t H2 ⟨T, v', u', e1, n, e2, f1, f2⟩ => ?_⟩
    have e3 := f1 vs s1
    have e4 := f2 us s2
    rw [hv] at e3
    rw [hu] at e4
    cases e3
    cases e4
    subst e1 e2
    have e5 : Ext m' m' H' (upd H' T (.tup [v, u])) := Ext.new n
    exact ⟨e5, fun h c => c.new n, .tup (.inl (.inl upd_same)) (.cons (rv.up e5) (.cons (ru.up e5) .nil))⟩
  · rw [zip_len] at hi
    rw [← r.length, ← r2.length]
    omega
end
section
variable {X : Cx} {cv : Nat → Value} {W : WX} {tg e a b : Expr} {ea eb : E} {pos p : Pos}
/-- a list or a tuple, walked -/
theorem sni_seq (ha : PE X e (tE X.K cv W ea)) : PI X tg e (tI X.K cv W (iSeq ea)) := ⟨fun pins s σV H Rj I ⟨m, σ, h, L, C, w⟩ => by
  have t : tE X.K cv W ea σV H fun v H1 => ∃ m1 h1 d, Hc X.K m1 h1 H1 ∧ RD X.K H1 m1 d v ∧ WP X.K (wx cv W σV) m1 H1 (opt (seqOf d) fun xs => R.ok xs h1) fun xs h' m' H' => ∀ J, Wk X.K J m' xs H' → Rj J H' :=
    tE.use L C w fun d h1 m1 H1 v e1 L1 C1 r1 w1 => ⟨m1, h1, d, C1, r1, w1⟩
  refine thn (ha.run pins s σV H _ I t) fun u s1 ⟨v, H1, I1, rv, m1, h1, d, C1, r1, w1⟩ => ?_
  obtain ⟨xs, e1, w2⟩ := WP.opt w1
  have w3 := WP.ok (a := xs) (h := h1) w2 C1
  cases r1 with
  | @tup a ds vs q r =>
    cases e1
    cases rv
    obtain ⟨us, r0, it, _⟩ := I1.tuple q
    refine wpAny_pyIter_tuple (show s1.heap.IsTuple a us.toArray from it) ?_
    refine ⟨s1.heap.objs.size, [s1.heap.objs.size], _, _, H1, rfl, I1.kept (t' := s1.toks) fun b o z => Heap.get?_push_of_some _ z, turn_tuple a _, ⟨_, Heap.get?_push_size _ rfl, rfl, rfl⟩, fun b hb => ?_, w3 _ (wk_tup q r)⟩
    have z : b = s1.heap.objs.size := List.mem_singleton.mp hb
    rw [z]
    exact I1.fpOk (Nat.le_refl _) I1.fresh
  | @lst a o ds vs q r =>
    cases e1
    cases rv
    obtain ⟨us, r0, it, _⟩ := I1.list (.inl (.inr ⟨o, q⟩))
    refine wpAny_pyIter_list it.isList ?_
    refine ⟨s1.heap.objs.size, [s1.heap.objs.size], _, _, H1, rfl, I1.kept (t' := s1.toks) fun b o z => Heap.get?_push_of_some _ z, turn_list a _, ⟨_, Heap.get?_push_size _ rfl, rfl, rfl⟩, fun b hb => ?_, w3 _ (wk_list q r)⟩
    have z : b = s1.heap.objs.size := List.mem_singleton.mp hb
    rw [z]
    exact I1.fpOk (Nat.le_refl _) I1.fresh
  | _ => cases e1⟩
theorem sni_rng (hg : Gl X "range") (hm : X.mg "range" = none) (ha : PE X e (tE X.K cv W ea)) (he : starEach [e] X.env = (false, eval e X.env) :: starEach [] X.env := by rfl) : PI X tg (.Call (.Name "range" p) [e] [] pos) (tI X.K cv W (iRng ea)) :=
  pi_imp (pi_range1 hg hm (pa_cons ha pa_nil he) he) fun σV H Rj ⟨m, σ, h, L, C, w⟩ => tE.use L C w fun d h1 m1 H1 v e1 L1 C1 r1 w1 => by
    cases r1 with
    | int j =>
      have w2 : WP X.K (wx cv W σV) m1 H1 (if (decide (-1000000 ≤ j) && decide (j ≤ 1000000)) = true then R.ok (rng 0 j.toNat) h1 else R.no) _ := w1
      by_cases c : (decide (-1000000 ≤ j) && decide (j ≤ 1000000)) = true
      · rw [if_pos c] at w2
        simp only [Bool.and_eq_true, decide_eq_true_eq] at c
        exact ⟨j, rfl, by omega, by omega, WP.ok w2 C1 _ wk_rng⟩
      · rw [if_neg c] at w2
        exact w2.elim
    | _ => exact w1.elim
theorem sni_zip {elts : List Expr} {kk : Nat} {tpos : Pos} (hg : Gl X "zip") (hm : X.mg "zip" = none) (ha : PE X a (tE X.K cv W ea)) (hb : PE X b (tE X.K cv W eb))
    (he : starEach [a, b] X.env = (false, eval a X.env) :: starEach [b] X.env := by rfl) (he2 : starEach [b] X.env = (false, eval b X.env) :: starEach [] X.env := by rfl) (hpl : (backTo pos (starEach [b] X.env)).any (·.1) = false := by rfl) : PI X (.Tuple elts kk tpos) (.Call (.Name "zip" p) [a, b] [] pos) (tI X.K cv W (iZip ea eb)) :=
  pi_imp (pi_zip hg hm (pa_cons ha (pa_cons hb pa_nil he2) he) he hpl) fun σV H Rj ⟨m, σ, h, L, C, w⟩ => tE.use L C w fun d h1 m1 H1 v e1 L1 C1 r1 w1 => tE.use L1 C1 w1 fun d2 h2 m2 H2 v2 e2 L2 C2 r2 w2 => by
    have r3 := r1.up e2
    cases r3 with
    | lst q r =>
      cases r2 with
      | lst q2 rr => exact ⟨_, _, _, _, rfl, .inl (.inr ⟨_, q⟩), .inl (.inr ⟨_, q2⟩), WP.ok w2 C2 _ (wk_zip q r q2 rr)⟩
      | _ => exact w2.elim
    | _ => exact w2.elim
end
end IP

namespace IP
open PySem PySem.Spec PyProof.Rows L2
section
variable {X : Cx} {cv : Nat → Value} {W : WX} {pos : Pos}
theorem pts_imp {ifs : List Expr} {t t' : TT} (p : PTs X ifs t) (i : ∀ σ H Q, t' σ H Q → t σ H Q) : PTs X ifs t' := ⟨fun pins s σ H Q I q => p.run pins s σ H Q I (i σ H Q q)⟩
theorem snts_nil : PTs X [] (tT X.K cv W0 IP.tYes) := pts_imp pts_nil fun σV H Q ⟨m, σ, h, L, C, w⟩ => WP.ok (a := true) (h := h) w C
theorem snts_one {c : Expr} {tc : T} (hc : PT X c (tT X.K cv W0 tc)) : PTs X [c] (tT X.K cv W0 tc) := pts_one hc
theorem wipe_wipe {σ : L2.St} {vs : List Nat} : L2.wipe (L2.wipe σ vs) vs = L2.wipe σ vs :=
  Sm.wipe (ws := vs) ⟨L2.wipe_length _ _, fun i hi => by rw [wipe_at, if_neg hi]⟩
/-- [elt for tg in iter if ..] -/
theorem lc_use {ws vs : List Nat} {g : G} {i : A} {t : T} {e : E} (hws : ∀ k ∈ ws, k ∈ vs) {σV : L2.St} {H : L2.Hp} {Q Q' : VK} (hq : ∀ v H, FQ Q v H → Q' v H) (w : tE X.K cv W (eLc vs g i t e) σV H Q) :
    tLc (tI X.K cv W i) (tH X.K cv W0 ws g) (tT X.K cv W0 t) (tE X.K cv W0 e) vs σV H Q' := by
  obtain ⟨m, σ, h, L, C, w⟩ := w
  refine ⟨m, σ, h, L, C, w.bnd.imp fun xs h1 m1 H1 e1 C1 w1 J wk Da nD => ?_⟩
  have nm : Da ∉ m1 := fun z => C1.old Da z nD
  refine ⟨fun k n H2 => n = xs.length - k ∧ k ≤ xs.length ∧ ∃ m2 h2 acc accV, Ext m1 m2 H1 H2 ∧ Hc X.K m2 h2 H2 ∧ H2 Da = some (.lst accV) ∧ RDs X.K H2 m2 acc accV ∧ Da ∉ m2 ∧
    WP X.K (wx cv W σV) m1 H1 ((lcGo g t e (IP.wipe σ vs) (xs.drop k) acc h2).bnd fun ys h => R.ok (D.lst ys) h) (fun d h' m' H' => ∀ v, RD X.K H' m' d v → Q v H'),
    ⟨xs.length, by simp, Nat.zero_le _, m1, h1, [], [], Ext.new nD, C1.new nD, upd_same, .nil, nm, w1⟩, ?_⟩
  rintro k n H2 ⟨rfl, hk, m2, h2, acc, accV, e2, C2, hD, rA, nm2, w2⟩
  have L2' : Lc X.K m2 H2 σ σV := (L.up e1).up e2
  by_cases hlt : k < xs.length
  · -- a turn
    obtain ⟨wk1, _⟩ := wk k m2 H2 e2
    obtain ⟨go, yld⟩ := wk1 xs[k] (List.getElem?_eq_getElem hlt)
    have ed : xs.drop k = xs[k] :: xs.drop (k + 1) := List.drop_eq_getElem_cons hlt
    rw [ed] at w2
    refine .inr ⟨go, fun H3 => k + 1 ≤ xs.length ∧ ∃ m2 h2 acc accV, Ext m1 m2 H1 H3 ∧ Hc X.K m2 h2 H3 ∧ H3 Da = some (.lst accV) ∧ RDs X.K H3 m2 acc accV ∧ Da ∉ m2 ∧
      WP X.K (wx cv W σV) m1 H1 ((lcGo g t e (IP.wipe σ vs) (xs.drop (k + 1)) acc h2).bnd fun ys h => R.ok (D.lst ys) h) (fun d h' m' H' => ∀ v, RD X.K H' m' d v → Q v H'),
      fun H3 q => ⟨xs.length - (k + 1), by omega, rfl, q.1, q.2⟩, fun x H3 hy => ?_⟩
    obtain ⟨e3, c3, rx⟩ := yld x H3 hy
    have hD3 : H3 Da = some (.lst accV) := e3.frm _ _ nm2 hD
    -- the turn's end is known
    have key : ∃ o h3, ((g xs[k] (IP.wipe σ vs) h2).bnd fun σ h => (t σ h).bnd fun b h => if b then (e σ h).bnd fun d h => R.ok (some d) h else R.ok none h) = R.ok o h3 := by
      cases q : ((g xs[k] (IP.wipe σ vs) h2).bnd fun σ h => (t σ h).bnd fun b h => if b then (e σ h).bnd fun d h => R.ok (some d) h else R.ok none h) with
      | ok o h3 => exact ⟨o, h3, rfl⟩
      | exc c h3 =>
        have z : lcGo g t e (IP.wipe σ vs) (xs[k] :: xs.drop (k + 1)) acc h2 = .no := by
          show (lcTurn g t e (IP.wipe σ vs) xs[k] h2).bnd _ = _
          unfold lcTurn
          rw [q]
          rfl
        rw [z] at w2
        exact w2.elim
      | no =>
        have z : lcGo g t e (IP.wipe σ vs) (xs[k] :: xs.drop (k + 1)) acc h2 = .no := by
          show (lcTurn g t e (IP.wipe σ vs) xs[k] h2).bnd _ = _
          unfold lcTurn
          rw [q]
          rfl
        rw [z] at w2
        exact w2.elim
    obtain ⟨o, h3, key⟩ := key
    have w3 : WP X.K (wx cv W σV) m1 H1 ((lcThen (lcGo g t e (IP.wipe σ vs) (xs.drop (k + 1))) acc o h3).bnd fun ys h => R.ok (D.lst ys) h) (fun d h' m' H' => ∀ v, RD X.K H' m' d v → Q v H') := by
      have z : lcGo g t e (IP.wipe σ vs) (xs[k] :: xs.drop (k + 1)) acc h2 = lcThen (lcGo g t e (IP.wipe σ vs) (xs.drop (k + 1))) acc o h3 := by
        show (lcTurn g t e (IP.wipe σ vs) xs[k] h2).bnd _ = _
        unfold lcTurn
        rw [key]
        rfl
      rw [z] at w2
      exact w2
    have wT : WP X.K (wx cv W0 (L2.wipe σV vs)) m2 H3 ((g xs[k] (IP.wipe σ vs) h2).bnd fun σ h => (t σ h).bnd fun b h => if b then (e σ h).bnd fun d h => R.ok (some d) h else R.ok none h) (fun o' h' m' H' => o' = o ∧ h' = h3 ∧ Ext m2 m' H3 H' ∧ Hc X.K m' h3 H') := by
      rw [key]
      exact fun m' H' e c => ⟨rfl, rfl, e, c⟩
    refine ⟨m2, xs[k], IP.wipe σ vs, h2, (L2'.up e3).wipe vs, c3 h2 C2, rx, wT.bnd.imp fun σ1 h4 m4 H4 e4 C4 w4 σV1 L4 s4 => ⟨(s4.wide hws).wipe.trans wipe_wipe, ?_⟩⟩
    refine ⟨m4, σ1, h4, L4, C4, w4.bnd.imp fun b h5 m5 H5 e5 C5 w5 => ?_⟩
    have e25 : Ext m2 m5 H3 H5 := e4.trans e5
    cases b with
    | true =>
      refine ⟨m5, σ1, h5, L4.up e5, C5, (WP.bnd w5).imp fun d h6 m6 H6 e6 C6 w6 v r6 => ?_⟩
      obtain ⟨eo, eh, e7, C7⟩ := WP.ok (a := some d) (h := h6) w6 C6
      subst eo eh
      have hD6 : H6 Da = some (.lst accV) := e7.frm _ _ nm2 hD3
      have nm6 : Da ∉ m6 := by
        obtain ⟨u, rfl, nu⟩ := e7.pre
        intro z
        rcases List.mem_append.mp z with z | z
        · exact nm2 z
        · rw [nu Da z] at hD3; cases hD3
      have rA6 : RDs X.K H6 m6 acc accV := (rA.up e3).up e7
      by_cases c : acc.length < 100000
      · have w3' : WP X.K (wx cv W σV) m1 H1 ((if acc.length < 100000 then lcGo g t e (IP.wipe σ vs) (xs.drop (k + 1)) (acc ++ [d]) h6 else R.no).bnd fun ys h => R.ok (D.lst ys) h) (fun d h' m' H' => ∀ v, RD X.K H' m' d v → Q v H') := w3
        rw [if_pos c] at w3'
        refine ⟨accV, hD6, by rw [← rA.length]; exact line2 c, hlt, m6, h6, acc ++ [d], accV ++ [v], ?_, C7.side nm6 hD6, upd_same, ?_, nm6, w3'⟩
        · exact ((e2.trans e3).trans e7).side nD
        · exact (rA6.append (.cons r6 .nil)).upI (Imm.wr hD6)
      · have w3' : WP X.K (wx cv W σV) m1 H1 ((if acc.length < 100000 then lcGo g t e (IP.wipe σ vs) (xs.drop (k + 1)) (acc ++ [d]) h6 else R.no).bnd fun ys h => R.ok (D.lst ys) h) (fun d h' m' H' => ∀ v, RD X.K H' m' d v → Q v H') := w3
        rw [if_neg c] at w3'
        exact w3'.elim
    | false =>
      obtain ⟨eo, eh, e7, C7⟩ := WP.ok (a := (none : Option D)) (h := h5) w5 C5
      subst eo eh
      have nm5 : Da ∉ m5 := by
        obtain ⟨u, rfl, nu⟩ := e7.pre
        intro z
        rcases List.mem_append.mp z with z | z
        · exact nm2 z
        · rw [nu Da z] at hD3; cases hD3
      exact ⟨hlt, m5, h5, acc, accV, (e2.trans e3).trans e7, C7, e7.frm _ _ nm2 hD3, (rA.up e3).up e7, nm5, w3⟩
  · -- the end
    obtain ⟨_, wk2⟩ := wk k m2 H2 e2
    refine .inl ⟨wk2 (by omega), hq _ _ (.inr ⟨Da, accV, rfl, hD, fun ob => ?_⟩)⟩
    rw [List.drop_eq_nil_of_le (by omega)] at w2
    have e5 : Ext m1 m2 H1 (upd H2 Da (.frz ob (.lst accV))) := e2.side nD
    exact w2 m2 _ e5 (C2.side nm2 hD) _ (.lst upd_same (rA.upI (Imm.wr hD)))
theorem snd_lc {ws : List Nat} {g : G} {i : A} {t : T} {e : E} {elt tg iter : Expr} {ifs : List Expr} {scope : Scope} {own : List (Str × Nat)} (hc : X.calm = true) (hN : X.N.Nodup) (hi : PI X tg iter (tI X.K cv W i)) (ok : BlkOk X.N X.env.scope scope own) (hws : ∀ k ∈ ws, k ∈ own.map (·.2))
    (hg : ∀ (s : Shared) (H : L2.Hp) (C : Addr) (cl : List (Str × Addr)) (fp : List Addr), PG (X.blk s H scope (compEnvC scope cl C X.env) fp) tg (tH X.K cv W0 ws g)) (ht : ∀ (s : Shared) (H : L2.Hp) (C : Addr) (cl : List (Str × Addr)) (fp : List Addr), PTs (X.blk s H scope (compEnvC scope cl C X.env) fp) ifs (tT X.K cv W0 t))
    (he : ∀ (s : Shared) (H : L2.Hp) (C : Addr) (cl : List (Str × Addr)) (fp : List Addr), PE (X.blk s H scope (compEnvC scope cl C X.env) fp) elt (tE X.K cv W0 e)) (hs : ∀ x, foldedSetIterable iter X.env x = pure x := by intro _; rfl) :
    PE X (.ListComp elt [⟨tg, iter, ifs, 0⟩] scope pos) (tE X.K cv W (eLc (own.map (·.2)) g i t e)) :=
  pe_imp (pe_fq (pe_lc hc hN hi ok hg ht he hs)) fun _ _ _ w => lc_use hws (fun _ _ z => z) w
end
end IP

namespace IP
open PySem PySem.Spec PyProof.Rows L2
section
variable {K : PySem.W.Frag} {cv : Nat → Value} {W : WX}
theorem WS.nxt {De : Ends} {m : List Addr} {H : L2.Hp} {σ : Lo} {h : Hp} {σV : L2.St} (w : WS K cv W De m H (.ok (.nxt σ) h)) (C : Hc K m h H) (L : Lc K m H σ σV) : De.nx σV H := w m H σV Ext.refl C L
/-- what is wished behind the first of two -/
theorem WS.thn {De : Ends} {m : List Addr} {H : L2.Hp} {r : R Fl} {f : S} (w : WS K cv W De m H (r.thn f)) : WS K cv W { De with nx := tS K cv W f De } m H r := by
  cases r with
  | ok a h =>
    cases a with
    | nxt σ => exact fun m' H' σV e C L => ⟨m', σ, h, L, C, WS.up w e⟩
    | _ => exact w
  | exc c h => exact w.elim
  | no => exact w.elim
/-- from here on -/
def tSe (K : PySem.W.Frag) (cv : Nat → Value) (W : WX) (De : Ends) (m : List Addr) (H : L2.Hp) (f : S) : L2.St → L2.Hp → Prop := fun σV H' => ∃ m' σ h, Ext m m' H H' ∧ Lc K m' H' σ σV ∧ Hc K m' h H' ∧ WS K cv W De m' H' (f σ h)
/-- .. behind a turn -/
theorem WS.trn {De : Ends} {m : List Addr} {H : L2.Hp} {r : R Fl} {f : S} (w : WS K cv W De m H (r.trn f)) : WS K cv W { De with nx := tSe K cv W De m H f, ct := tSe K cv W De m H f, bk := De.nx } m H r := by
  cases r with
  | ok a h =>
    cases a with
    | nxt σ => exact fun m' H' σV e C L => ⟨m', σ, h, e, L, C, WS.up w e⟩
    | cnt σ => exact fun m' H' σV e C L => ⟨m', σ, h, e, L, C, WS.up w e⟩
    | brk σ => exact w
    | _ => exact w
  | exc c h => exact w.elim
  | no => exact w.elim
theorem WS.ends {De : Ends} {m : List Addr} {H : L2.Hp} {r : R Fl} {n1 n2 c1 c2 b : L2.St → L2.Hp → Prop} (w : WS K cv W { De with nx := n1, ct := c1, bk := b } m H r) (hn : ∀ σ H, n1 σ H → n2 σ H) (hc : ∀ σ H, c1 σ H → c2 σ H) : WS K cv W { De with nx := n2, ct := c2, bk := b } m H r := by
  cases r with
  | ok a h =>
    cases a with
    | nxt σ => exact fun m' H' σV e C L => hn _ _ (w m' H' σV e C L)
    | cnt σ => exact fun m' H' σV e C L => hc _ _ (w m' H' σV e C L)
    | _ => exact w
  | exc c h => exact w
  | no => exact w
end
section
variable {X : Cx} {cv : Nat → Value} {W : WX} {e tg : Expr} {ee : E} {g : G} {pos : Pos} {st : Stmt} {sts : List Stmt} {s r : S}
/-! ### blocks -/
theorem sns_nil : PSs X [] (tS X.K cv W bNil) := pss_imp pss_nil fun D σV H ⟨m, σ, h, L, C, w⟩ => WS.nxt w C L
theorem sns_cons (a : PS X st (tS X.K cv W s)) (b : PSs X sts (tS X.K cv W r)) : PSs X (st :: sts) (tS X.K cv W (bCons s r)) := pss_imp (pss_cons a b) fun D σV H ⟨m, σ, h, L, C, w⟩ => ⟨m, σ, h, L, C, WS.thn w⟩
theorem sns_pass : PS X (.Pass pos) (tS X.K cv W sPass) := ps_imp ps_pass fun D σV H ⟨m, σ, h, L, C, w⟩ => WS.nxt w C L
theorem sns_no : PS X st (tS X.K cv W sNo) := ps_imp ps_never fun D σV H ⟨m, σ, h, L, C, w⟩ => w.elim
theorem sns_nos : PSs X sts (tS X.K cv W sNo) := pss_imp pss_never fun D σV H ⟨m, σ, h, L, C, w⟩ => w.elim
/-! ### stores -/
theorem asg_use {De : Ends} {σV : L2.St} {H : L2.Hp} {ws : List Nat} {gg : TG} (hg : ∀ v σV H Q, tH X.K cv W0 ws g v σV H Q → gg v σV H Q) (w : tS X.K cv W (sAsg g ee) De σV H) : tAsg (tE X.K cv W ee) gg De σV H := by
  obtain ⟨m, σ, h, L, C, w⟩ := w
  exact tE.stm L C w fun d h1 m1 H1 v e1 L1 C1 r1 w1 => hg v σV H1 De.nx ⟨m1, d, σ, h1, L1, C1, r1, (WS.stm L1 w1).calm.imp fun σ' h2 m2 H2 e2 C2 w2 σV' L2' _ => WS.nxt w2 C2 L2'⟩
theorem sns_asg {ws : List Nat} (he : PE X e (tE X.K cv W ee)) (hg : PG X tg (tH X.K cv W0 ws g)) (hs : swapsWithSole [tg] e pos.line X.env = pure false := by rfl) (hw : swappedStores [tg] e X.env = pure none := by rfl)
    (h1 : (assignEach [tg] X.env).map (·.2) = [assign tg X.env] := by rfl) : PS X (.Assign [tg] e pos) (tS X.K cv W (sAsg g ee)) := ps_imp (ps_asg he hg hs hw h1) fun D σV H w => asg_use (fun _ _ _ _ z => z) w
theorem gName_of {i : Nat} {v : V} {σV : L2.St} {H : L2.Hp} {Q : L2.St → L2.Hp → Prop} {K : PySem.W.Frag} (w : tH K cv W0 [i] (gLoc i) v σV H Q) : gName i v σV H Q := by
  obtain ⟨m, d, σ, h, L, C, r, w⟩ := w
  exact WP.ok (a := σ.set i (some d)) (h := h) w C _ (L.set r) Sm.set
/-- x = e -/
theorem sns_set {i : Nat} {x : Str} {pos' : Pos} (hN : X.N.Nodup) (hi : X.N[i]? = some x) (hx : Loc X.env.scope x) (he : PE X e (tE X.K cv W ee)) (hs : swapsWith e (some (.Name x pos')) pos.line X.env = pure false := by rfl) (hf : X.fn x = true ∨ X.env.scope.names.lookup x = some .local := by first | exact .inl rfl | exact .inr rfl | assumption) :
    PS X (.Assign [.Name x pos'] e pos) (tS X.K cv W (sAsg (gLoc i) ee)) := ps_imp (ps_set hN hi hx he hs hf) fun D σV H w => asg_use (fun _ _ _ _ z => gName_of z) w
/-- a list comprehension's list, frozen when it is stored -/
theorem fq_asg {K : PySem.W.Frag} {t : TE} {j : Nat} : True := trivial
/-- x, y = a, b -/
theorem sns_par {i j : Nat} {x y : Str} {a b : Expr} {ea eb : E} {px py pt : Pos} {kt k2 pt2} (hc : X.calm = true) (hN : X.N.Nodup) (hi : X.N[i]? = some x) (hj : X.N[j]? = some y) (hij : i ≠ j)
    (hx : X.env.scope.names.lookup x = some .local) (hy : X.env.scope.names.lookup y = some .local) (ha : PE X a (tE X.K cv W ea)) (hb : PE X b (tE X.K cv W eb))
    (hw : swappedStores [.Tuple [.Name x px, .Name y py] kt pt] (.Tuple [a, b] k2 pt2) X.env = pure (some [x, y]))
    (hs : swapsWithSole [.Tuple [.Name x px, .Name y py] kt pt] (.Tuple [a, b] k2 pt2) pos.line X.env = pure false := by rfl)
    (he : starEach [a, b] X.env = (false, eval a X.env) :: starEach [b] X.env := by rfl) (he2 : starEach [b] X.env = (false, eval b X.env) :: starEach [] X.env := by rfl) :
    PS X (.Assign [.Tuple [.Name x px, .Name y py] kt pt] (.Tuple [a, b] k2 pt2) pos) (tS X.K cv W (sPar i j ea eb)) :=
  ps_imp (ps_par hc hN hi hj hij hx hy (pa_cons ha (pa_cons hb pa_nil he2) he) hw hs) fun De σV H ⟨m, σ, h, L, C, w⟩ => tE.stm L C w fun d h1 m1 H1 v e1 L1 C1 r1 w1 => tE.stm L1 C1 w1 fun d2 h2 m2 H2 v2 e2 L2' C2 r2 w2 =>
    ⟨v, v2, rfl, WS.nxt w2 C2 ((L2'.set (r1.up e2)).set r2)⟩
/-! ### expressions, returns -/
theorem sns_ex (he : PE X e (tE X.K cv W ee)) (hs : swapsWith e none pos.line X.env = pure false := by rfl) : PS X (.Expr e pos) (tS X.K cv W (sEx ee)) :=
  ps_imp (ps_expr he hs) fun De σV H ⟨m, σ, h, L, C, w⟩ => tE.stm L C w fun d h1 m1 H1 v e1 L1 C1 r1 w1 => WS.nxt w1 C1 L1
theorem sns_ret (he : PE X e (tE X.K cv W ee)) : PS X (.Return (some e) pos) (tS X.K cv W (sRet ee)) :=
  ps_imp (ps_ret he) fun De σV H ⟨m, σ, h, L, C, w⟩ => tE.stm L C w fun d h1 m1 H1 v e1 L1 C1 r1 w1 => w1 m1 H1 v Ext.refl C1 r1
theorem Hc.kill {K : PySem.W.Frag} {m : List Addr} {h : Hp} {H : L2.Hp} {n : Nat} {p : Addr} {xs : List V} {o : HO} (C : Hc K m h H) (hn : m[n]? = some p) (q : H p = some (.lst xs)) : Hc K m (h.set n .gone) (upd H p o) := by
  refine ⟨by simp [C.len], C.nd, fun k ob a e1 e2 => ?_, fun a ha => ?_⟩
  · by_cases hk : n = k
    · subst hk
      by_cases hl : n < h.length
      · rw [List.getElem?_set_self hl] at e1
        cases e1
        trivial
      · rw [List.getElem?_eq_none (by simpa using hl)] at e1
        cases e1
    · rw [List.getElem?_set_ne hk] at e1
      have z := C.obj k ob a e1 e2
      have na : a ≠ p := fun y => by
        subst y
        obtain ⟨i1, j1⟩ := List.getElem?_eq_some_iff.mp hn
        obtain ⟨i2, j2⟩ := List.getElem?_eq_some_iff.mp e2
        exact hk ((List.getElem_inj C.nd).mp (j1.trans j2.symm))
      cases ob with
      | gone => trivial
      | lst ys =>
        obtain ⟨vs, r1, r2⟩ := z
        exact ⟨vs, by rw [upd_ne na]; exact r1, r2.upI (Imm.wr q)⟩
  · by_cases z : a = p
    · subst z; rw [upd_same]; intro y; cases y
    · rw [upd_ne z]; exact C.old a ha
/-- .. or grows -/
theorem Hc.grow {K : PySem.W.Frag} {m : List Addr} {h : Hp} {H : L2.Hp} {n : Nat} {p : Addr} {xs ys : List V} {ds : List D} (C : Hc K m h H) (hn : m[n]? = some p) (q : H p = some (.lst xs)) (r : RDs K H m ds ys) : Hc K m (h.set n (.lst ds)) (upd H p (.lst ys)) := by
  have z := C.kill (o := .lst ys) hn q
  refine ⟨by simp [C.len], C.nd, fun k ob a e1 e2 => ?_, z.old⟩
  by_cases hk : n = k
  · subst hk
    by_cases hl : n < h.length
    · rw [List.getElem?_set_self hl] at e1
      cases e1
      rw [hn] at e2
      cases e2
      exact ⟨ys, upd_same, r.upI (Imm.wr q)⟩
    · rw [List.getElem?_eq_none (by simpa using hl)] at e1
      cases e1
  · refine z.obj k ob a ?_ e2
    rw [List.getElem?_set_ne hk] at e1
    rw [List.getElem?_set_ne hk]
    exact e1
/-- the grown list is handed back -/
theorem sns_retf {i : Nat} {x : Str} {p : Pos} (hN : X.N[i]? = some x) (hv : Vis X.env.scope x) (hd : (x == ("__debug__" : Str)) = false := by decide) (hcd : (x == ("__classdict__" : Str)) = false := by decide) : PS X (.Return (some (.Name x p)) pos) (tS X.K cv W (sRetf i)) :=
  ps_imp (ps_ret (pe_fq (pe_var hN hv hd hcd))) fun De σV H ⟨m, σ, h, L, C, w⟩ => by
    have w' : WS X.K cv W De m H (match σ[i]? with
      | some (some (.ref n)) => (match h[n]? with
        | some (.lst xs) => R.ok (Fl.ret (D.lst xs)) (h.set n .gone)
        | _ => R.no)
      | _ => R.no) := w
    cases e : σ[i]? with
    | none => rw [e] at w'; exact w'.elim
    | some o =>
      cases o with
      | none => rw [e] at w'; exact w'.elim
      | some d =>
        rw [e] at w'
        obtain ⟨v, h1, r⟩ := L.loc i d e
        cases r with
        | @ref n a hn =>
          have w2 : WS X.K cv W De m H (match h[n]? with
              | some (.lst xs) => R.ok (Fl.ret (D.lst xs)) (h.set n .gone)
              | _ => R.no) := w'
          cases q : h[n]? with
          | none =>
            rw [q] at w2
            exact w2.elim
          | some ob =>
            rw [q] at w2
            cases ob with
            | gone => exact w2.elim
            | lst xs =>
              obtain ⟨vs, q1, rs⟩ := C.obj n _ a q hn
              refine ⟨.ref a, h1, .inr ⟨a, vs, rfl, q1, fun ob => ?_⟩⟩
              have e1 : Ext m m H (upd H a (.frz ob (.lst vs))) := Ext.wr (List.mem_of_getElem? hn) q1
              exact w2 m _ _ e1 (C.kill hn q1) (.lst upd_same (rs.up e1))
        | _ => exact w'.elim
/-! ### if, while, for -/
theorem sns_if {c : Expr} {a b : List Stmt} {tc : T} {sa sb : S} (hc : PT X c (tT X.K cv W tc)) (ha : PSs X a (tS X.K cv W sa)) (hb : PSs X b (tS X.K cv W sb)) : PS X (.If c a b pos) (tS X.K cv W (sIf tc sa sb)) :=
  ps_imp (ps_if hc ha hb) fun De σV H ⟨m, σ, h, L, C, w⟩ => tT.stm L C w fun d h1 m1 H1 e1 L1 C1 w1 => by
    cases d with
    | true => exact ⟨m1, σ, h1, L1, C1, w1⟩
    | false => exact ⟨m1, σ, h1, L1, C1, w1⟩
theorem sns_whl {n : Nat} {c : Expr} {body : List Stmt} {tc : T} {sb : S} (hp : PassesOwn (model X.prog X.w) X.A X.env X.xe) (hc : PT X c (tT X.K cv W tc)) (hb : PSs X body (tS X.K cv W sb)) : PS X (.While c body [] pos) (tS X.K cv W (sWhl n tc sb)) :=
  ps_imp (ps_while hp hc hb) fun De σV H w => by
    refine ⟨fun k σV H => tS X.K cv W (sWhl k tc sb) De σV H, ⟨n, w⟩, fun k σV H w => ?_⟩
    obtain ⟨m, σ, h, L, C, w⟩ := w
    cases k with
    | zero => exact w.elim
    | succ k =>
      refine tT.stm L C w fun d h1 m1 H1 e1 L1 C1 w1 => ?_
      cases d with
      | true => exact ⟨tS X.K cv W (sWhl k tc sb) De, fun σ' H' q => ⟨k, Nat.lt_succ_self k, q⟩, m1, σ, h1, L1, C1, (WS.trn w1).ends (fun _ _ ⟨m', σ, h, _, a, b, c⟩ => ⟨m', σ, h, a, b, c⟩) (fun _ _ ⟨m', σ, h, _, a, b, c⟩ => ⟨m', σ, h, a, b, c⟩)⟩
      | false => exact WS.nxt (σ := σ) (h := h1) w1 C1 L1
theorem sns_for {ws : List Nat} {iter : Expr} {body : List Stmt} {i : A} {sb : S} (hp : PassesOwn (model X.prog X.w) X.A X.env X.xe) (hc : X.calm = true) (hi : PI X tg iter (tI X.K cv W i)) (hg : PG X tg (tH X.K cv W0 ws g)) (hb : PSs X body (tS X.K cv W sb))
    (hs : ∀ x, foldedSetIterable iter X.env x = pure x := by intro _; rfl) : PS X (.For tg iter body [] pos) (tS X.K cv W (sFor g i sb)) :=
  ps_imp (ps_for hp hc hi hg hb hs) fun De σV H ⟨m, σ, h, L, C, w⟩ => by
    refine ⟨m, σ, h, L, C, (WS.stm L w).imp fun xs h1 m1 H1 e1 C1 w1 J wk => ?_⟩
    refine ⟨fun k n σV H => n = xs.length - k ∧ k ≤ xs.length ∧ tSe X.K cv W De m1 H1 (forGo g sb (xs.drop k)) σV H, ⟨xs.length, by simp, Nat.zero_le _, m1, σ, h1, Ext.refl, L.up e1, C1, w1⟩, ?_⟩
    rintro k n σV2 H2 ⟨rfl, hk, m2, σ2, h2, e2, L2', C2, w2⟩
    obtain ⟨wk1, wk2⟩ := wk k m2 H2 e2
    by_cases hlt : k < xs.length
    · obtain ⟨go, yld⟩ := wk1 xs[k] (List.getElem?_eq_getElem hlt)
      have ed : xs.drop k = xs[k] :: xs.drop (k + 1) := List.drop_eq_getElem_cons hlt
      rw [ed] at w2
      refine .inr ⟨go, fun σV H => k + 1 ≤ xs.length ∧ tSe X.K cv W De m1 H1 (forGo g sb (xs.drop (k + 1))) σV H, fun σ' H' q => ⟨xs.length - (k + 1), by omega, rfl, q.1, q.2⟩, fun x H3 hy => ?_⟩
      obtain ⟨e3, c3, rx⟩ := yld x H3 hy
      have L3 := L2'.up e3
      refine ⟨m2, xs[k], σ2, h2, L3, c3 h2 C2, rx, (WS.stm L3 (WS.up w2 e3)).calm.imp fun σ4 h4 m4 H4 e4 C4 w4 σV4 L4 _ => ?_⟩
      have e24 : Ext m1 m4 H1 H4 := (e2.trans e3).trans e4
      exact ⟨m4, σ4, h4, L4, C4, (WS.trn w4).ends (fun _ _ ⟨m', σ, h, e, a, b, c⟩ => ⟨hlt, m', σ, h, e24.trans e, a, b, c⟩) (fun _ _ ⟨m', σ, h, e, a, b, c⟩ => ⟨hlt, m', σ, h, e24.trans e, a, b, c⟩)⟩
    · refine .inl ⟨wk2 (by omega), ?_⟩
      rw [List.drop_eq_nil_of_le (by omega)] at w2
      exact WS.nxt w2 C2 L2'
end
end IP

namespace IP
open PySem PySem.Spec PyProof.Rows L2
section
variable {X : Cx} {cv : Nat → Value} {W : WX} {a b c e : Expr} {ea eb ec ee : E} {pos : Pos}
/-- l.append(e) -/
theorem snd_app {apos : Pos} (ho : PE X a (tE X.K cv W ea)) (he : PE X e (tE X.K cv W ee))
    (hbase : attributeBase a "append" X.env (eval a X.env) = eval a X.env := by rfl)
    (hfew : ((backTo pos (starEach [e] X.env)).all (fun x => !x.1) && (backToKw pos (keywordEach [] X.env)).all (fun x => x.1.isSome)
      && decide ([e].length + ([] : List Keyword).length + (if ([] : List Keyword).isEmpty then 0 else 1) < 30)) = true := by rfl)
    (hline : (apos.endLine == pos.line) = true := by rfl) (hs : starEach [e] X.env = (false, eval e X.env) :: starEach [] X.env := by rfl) (hplain : (backTo pos (starEach [] X.env)).any (·.1) = false := by rfl) :
    PE X (.Call (.Attribute a "append" apos) [e] [] pos) (tE X.K cv W (eApp ea ee)) :=
  pe_imp (pe_bm PySem.F.plainAttrs_list PySem.F.slot_list_append PySem.F.type_list_append mt_append ho (pa_cons he pa_nil hs) hbase hfew hline hs hplain) fun σV H Q ⟨m, σ, h, L, C, w⟩ =>
    tE.use L C w fun d h1 m1 H1 v e1 L1 C1 r1 w1 => by
      by_cases ci : isL d h1 = true
      · rw [if_pos ci] at w1
        cases r1 with
        | @ref n p hp =>
          have ty : ∃ vs0, H1 p = some (.lst vs0) := by
            have ci' : (match h1[n]? with
              | some (.lst _) => true
              | _ => false) = true := ci
            cases q : h1[n]? with
            | none => rw [q] at ci'; cases ci'
            | some ob =>
              cases ob with
              | lst xs0 =>
                obtain ⟨vs0, q1, _⟩ := C1.obj n _ p q hp
                exact ⟨vs0, q1⟩
              | gone => rw [q] at ci'; cases ci'
          obtain ⟨vs0, q0⟩ := ty
          refine ⟨.inl ⟨rfl, vs0, .inl (.inl q0)⟩, tE.use L1 C1 w1 fun d2 h2 m2 H2 v2 e2 L2' C2 r2 w2 => ?_⟩
          have hp2 := e2.at hp
          have w3 : WP X.K (wx cv W σV) m2 H2 (match h2[n]? with
            | some (.lst xs) => if xs.length < 100000 then R.ok D.non (h2.set n (.lst (xs ++ [d2]))) else R.no
            | _ => R.no) _ := w2
          cases q : h2[n]? with
          | none => rw [q] at w3; exact w3.elim
          | some ob =>
            rw [q] at w3
            cases ob with
            | gone => exact w3.elim
            | lst xs =>
              obtain ⟨vs, q1, rs⟩ := C2.obj n _ p q hp2
              have w4 : WP X.K (wx cv W σV) m2 H2 (if xs.length < 100000 then R.ok D.non (h2.set n (.lst (xs ++ [d2]))) else R.no) _ := w3
              by_cases c : xs.length < 100000
              · rw [if_pos c] at w4
                refine ⟨p, vs, v2, rfl, rfl, q1, by rw [← rs.length]; exact line2 c, ?_⟩
                have e5 : Ext m2 m2 H2 (upd H2 p (.lst (vs ++ [v2]))) := Ext.wr (List.mem_of_getElem? hp2) q1
                exact w4 m2 _ e5 (C2.grow hp2 q1 (rs.append (.cons r2 .nil))) _ .non
              · rw [if_neg c] at w4
                exact w4.elim
        | _ => cases ci
      · rw [if_neg ci] at w1
        exact w1.elim
/-- x, y, z = a, b, c -/
theorem sns_par3 {i j l : Nat} {x y z : Str} {a b c : Expr} {ea eb ec : E} {px py pz pt : Pos} {kt k2 pt2} (hc : X.calm = true) (hN : X.N.Nodup) (hi : X.N[i]? = some x) (hj : X.N[j]? = some y) (hl : X.N[l]? = some z) (hij : i ≠ j) (hil : i ≠ l) (hjl : j ≠ l)
    (hx : X.env.scope.names.lookup x = some .local) (hy : X.env.scope.names.lookup y = some .local) (hz : X.env.scope.names.lookup z = some .local) (ha : PE X a (tE X.K cv W ea)) (hb : PE X b (tE X.K cv W eb)) (hc3 : PE X c (tE X.K cv W ec))
    (hw : swappedStores [.Tuple [.Name x px, .Name y py, .Name z pz] kt pt] (.Tuple [a, b, c] k2 pt2) X.env = pure (some [x, y, z]))
    (hs : swapsWithSole [.Tuple [.Name x px, .Name y py, .Name z pz] kt pt] (.Tuple [a, b, c] k2 pt2) pos.line X.env = pure false := by rfl)
    (he : starEach [a, b, c] X.env = (false, eval a X.env) :: starEach [b, c] X.env := by rfl) (he2 : starEach [b, c] X.env = (false, eval b X.env) :: starEach [c] X.env := by rfl) (he3 : starEach [c] X.env = (false, eval c X.env) :: starEach [] X.env := by rfl) :
    PS X (.Assign [.Tuple [.Name x px, .Name y py, .Name z pz] kt pt] (.Tuple [a, b, c] k2 pt2) pos) (tS X.K cv W (sPar3 i j l ea eb ec)) :=
  ps_imp (ps_par3 hc hN hi hj hl hij hil hjl hx hy hz (pa_cons ha (pa_cons hb (pa_cons hc3 pa_nil he3) he2) he) hw hs) fun De σV H ⟨m, σ, h, L, C, w⟩ => tE.stm L C w fun d h1 m1 H1 v e1 L1 C1 r1 w1 => tE.stm L1 C1 w1 fun d2 h2 m2 H2 v2 e2 L2' C2 r2 w2 =>
    tE.stm L2' C2 w2 fun d3 h3 m3 H3 v3 e3 L3 C3 r3 w3 => ⟨v, v2, v3, rfl, WS.nxt w3 C3 (((L3.set ((r1.up e2).up e3)).set (r2.up e3)).set r3)⟩
theorem ps_fq {st : Stmt} {t : TS} (p : PS X st t) : PS X st (fun D σ H => t { D with nx := fun σ H => D.nx σ H ∨ ∃ a xs, H a = some (.lst xs) ∧ ∀ o, D.nx σ (upd H a (.frz o (.lst xs))) } σ H) := ⟨fun pins s σ H D I h => by
  refine thn (p.run pins s σ H _ I h) fun f s1 q => ?_
  cases f with
  | next =>
    obtain ⟨σ', H', I', q1⟩ := q
    rcases q1 with q1 | ⟨a, xs, e2, q1⟩
    · exact ⟨σ', H', I', q1⟩
    · obtain ⟨o, I2⟩ := I'.lock e2 trivial
      exact ⟨σ', _, I2, q1 o⟩
  | brk => exact q
  | cont => exact q
  | ret u => exact q⟩
/-- y = [elt for tg in iter if ..], y a local -/
theorem sns_setLc {ws : List Nat} {i : Nat} {y : Str} {py : Pos} {elt tg iter : Expr} {ifs : List Expr} {scope : Scope} {own : List (Str × Nat)} {pos spos : Pos} {ii : A} {g : G} {t : T} (hc : X.calm = true) (hN : X.N.Nodup) (hy : X.N[i]? = some y) (hyl : X.env.scope.names.lookup y = some .local)
    (hsw : swapsWith (.ListComp elt [⟨tg, iter, ifs, 0⟩] scope pos) (some (.Name y py)) spos.line X.env = pure true) (hi : PI X tg iter (tI X.K cv W ii)) (ok : BlkOk X.N X.env.scope scope own) (hws : ∀ k ∈ ws, k ∈ own.map (·.2))
    (hg : ∀ (s : Shared) (H : L2.Hp) (C : Addr) (cl : List (Str × Addr)) (fp : List Addr), PG (X.blk s H scope (compEnvC scope cl C X.env) fp) tg (tH X.K cv W0 ws g)) (ht : ∀ (s : Shared) (H : L2.Hp) (C : Addr) (cl : List (Str × Addr)) (fp : List Addr), PTs (X.blk s H scope (compEnvC scope cl C X.env) fp) ifs (tT X.K cv W0 t))
    (he : ∀ (s : Shared) (H : L2.Hp) (C : Addr) (cl : List (Str × Addr)) (fp : List Addr), PE (X.blk s H scope (compEnvC scope cl C X.env) fp) elt (tE X.K cv W0 ee)) (hs : ∀ x, foldedSetIterable iter X.env x = pure x := by intro _; rfl) :
    PS X (.Assign [.Name y py] (.ListComp elt [⟨tg, iter, ifs, 0⟩] scope pos) spos) (tS X.K cv W (sAsg (gLoc i) (eLc (own.map (·.2)) g ii t ee))) :=
  ps_imp (ps_fq (ps_setLc hc hN hy hyl hsw hi ok hg ht he hs)) fun De σV H w => by
    have w1 : tAsg (tE X.K cv W (eLc (own.map (·.2)) g ii t ee)) (gName i) De σV H := asg_use (W := W) (fun _ _ _ _ z => gName_of z) w
    have w2 : tE X.K cv W (eLc (own.map (·.2)) g ii t ee) σV H (fun v H => De.nx (σV.set i (some v)) H) := w1
    refine lc_use hws (fun v H q => ?_) w2
    rcases q with q | ⟨a, xs, e1, e2, q⟩
    · exact .inl q
    · subst e1
      exact .inr ⟨a, xs, e2, q⟩
end
/-! ### defs -/
theorem RDs.some {K : PySem.W.Frag} {m : List Addr} {H : L2.Hp} {ds : List D} {vs : List V} (r : RDs K H m ds vs) (ns : Nat) : Lc K m H (entry ns ds) (vs.map some ++ List.replicate (ns - vs.length) none) := by
  refine ⟨by simp [entry, r.length], fun i d q => ?_⟩
  unfold entry at q
  by_cases hi : i < ds.length
  · rw [List.getElem?_append_left (by simpa using hi), List.getElem?_map] at q
    cases z : ds[i]? with
    | none => rw [z] at q; cases q
    | some d' =>
      rw [z] at q
      cases q
      obtain ⟨v, h1, h2⟩ := r.get z
      exact ⟨v, by rw [List.getElem?_append_left (by rw [List.length_map, ← r.length]; exact hi), List.getElem?_map, h1]; rfl, h2⟩
  · rw [List.getElem?_append_right (by simpa using hi), List.getElem?_replicate] at q
    split at q <;> cases q
section
variable {P : Program} {w : World} {K : PySem.W.Frag} {mg : Str → Option Value} {base : Heap} {cv : Nat → Value}
abbrev WE' (E : XK) : WX := fun c d _ H => E c d H
/-- a def does what its body says -/
theorem fn_I {x qual : Str} {params : Arguments} {body : List Stmt} {scope : Scope} {dvs : List V} {kws : List (Str × V)} {f : Addr} {fd : FuncData} {N ps : List Str} {k np ns : Nat} {b : S} {g : Fn} (F : FunD K x qual params body scope dvs kws f fd) (Sc : FnScope N ps scope) (hp : ps.length = np) (hn : N.length = ns) (hg : g = mkFn np ns b)
    (hbody : ∀ (cdv : Value) (A : Around) (outer : List Env) (s : Shared) (H : L2.Hp) (E : XK), Room k (A.deeper (envOfC qual scope s.heap.objs.size f cdv)) → Takes (cxOf (L2.CX P w) P w K mg base N qual scope f cdv A outer s H E) (WE' E) →
      PSs (cxOf (L2.CX P w) P w K mg base N qual scope f cdv A outer s H E) body (tS K cv (WE' E) b)) :
    FnOk P w K mg base (L2.CX P w) (k + 1) f fd ps (spI K cv np g) := by
  subst hp hn hg
  refine F.ok Sc (fun vs H Q E ⟨m, h, ds, C, r, l, _⟩ => l) (fun cdv A outer s H vs Q E hr ⟨m, h, ds, C, r, l, z⟩ => ⟨_, hbody cdv A outer s H E hr (takes_of rfl rfl rfl rfl), m, entry N.length ds, h, r.some N.length, C, ?_⟩)
  have z' : WP K (fun c H' => E (cv c) none H') m H (if ds.length = ps.length then fnEnd (b (entry N.length ds) h) else R.no) _ := z
  rw [if_pos (by rw [r.length]; exact l)] at z'
  cases q : b (entry N.length ds) h with
  | ok fl h2 =>
    rw [q] at z'
    cases fl with
    | nxt σ => exact fun m' H' σV e c _ => z' m' H' e c _ .non
    | ret d => exact fun m' H' v e c rv => z' m' H' e c v rv
    | exc c σ => exact fun m' H' σV e cc _ => z' m' H' e cc
    | brk σ => exact z'.elim
    | cnt σ => exact z'.elim
  | exc c h2 => rw [q] at z'; exact z'.elim
  | no => rw [q] at z'; exact z'.elim
/-- nothing leaves the def -/
theorem calm0 {k : Nat} {f : Addr} {fd : FuncData} {ps : List Str} {sp : Sp} (F : FnOk P w K mg base (L2.CX P w) k f fd ps sp) : FnOk P w K mg base CX0 k f fd ps (fun vs H Q _ => sp vs H Q E0) :=
  ⟨fun vs H Q E q => F.len vs H Q E0 q, fun A outer s H args us vs Q E hr he hb hv hs => codeAny_mono (F.run A outer s H args us vs Q E0 hr he hb hv hs) fun r s' hq => by
    cases r with
    | ok fl => cases fl <;> exact hq
    | error e =>
      obtain ⟨_, _, _, _, _, _, _, _, _, _, _, _, z⟩ := hq
      exact z.elim⟩
end
end IP

namespace IP
open PySem PySem.Spec PyProof.Rows L2
/-! ### short words for printed texts -/
section
variable {K : PySem.W.Frag}
theorem ops_lt : OpS K fLt (rI0 fun i j => .bl (decide (i < j))) := ops_cmp
theorem ops_le : OpS K fLe (rI0 fun i j => .bl (decide (i ≤ j))) := ops_cmp
theorem ops_gt : OpS K fGt (rI0 fun i j => .bl (decide (j < i))) := ops_cmp
theorem ops_ge : OpS K fGe (rI0 fun i j => .bl (decide (j ≤ i))) := ops_cmp
theorem _root_.L2.Room.unitsD {k : Nat} {A : Around} (r : Room k A) : A.units + 65 < cLine := by have := r.un; omega
end
section
variable {X : Cx} {cv : Nat → Value} {W : WX}
theorem sv (i : Nat) {x : Str} {pos : Pos} (hN : X.N[i]? = some x := by rfl) (hv : Vis X.env.scope x := by first | exact Or.inl rfl | exact Or.inr (Or.inl rfl) | exact Or.inr (Or.inr rfl)) (hd : (x == ("__debug__" : Str)) = false := by decide)
    (hcd : (x == ("__classdict__" : Str)) = false := by decide) : PE X (.Name x pos) (tE X.K cv W (eLoc i)) := snd_var hN hv hd hcd
theorem boot_int : bootBuiltins "int" = some (.type "int") := by decide +kernel
end
end IP

namespace IP
open PySem PySem.Spec PyProof.Rows L2
/-! ### slices -/
theorem sIx_eq (n d : Nat) (o : Option Int) : HT.sIx n d o = sIx n d o := by cases o <;> rfl
theorem RDs.take {K : PySem.W.Frag} {m : List Addr} {H : L2.Hp} : ∀ {ds : List D} {vs : List V} (n : Nat), RDs K H m ds vs → RDs K H m (ds.take n) (vs.take n)
  | _, _, 0, _ => by simp; exact .nil
  | _, _, n + 1, .nil => by simp; exact .nil
  | _, _, n + 1, .cons a r => by simp only [List.take_succ_cons]; exact .cons a (r.take n)
theorem RDs.drop {K : PySem.W.Frag} {m : List Addr} {H : L2.Hp} : ∀ {ds : List D} {vs : List V} (n : Nat), RDs K H m ds vs → RDs K H m (ds.drop n) (vs.drop n)
  | _, _, 0, r => by simp only [List.drop_zero]; exact r
  | _, _, n + 1, .nil => by simp; exact .nil
  | _, _, n + 1, .cons a r => by simp only [List.drop_succ_cons]; exact r.drop n
theorem RDs.cut {K : PySem.W.Frag} {m : List Addr} {H : L2.Hp} {ds : List D} {vs : List V} (r : RDs K H m ds vs) (l u : Option Int) : RDs K H m (IP.cut ds l u) (cutV vs l u) := by
  unfold IP.cut cutV
  rw [sIx_eq, sIx_eq, ← r.length]
  exact (r.drop _).take _
theorem RDs.reverse {K : PySem.W.Frag} {m : List Addr} {H : L2.Hp} : ∀ {ds : List D} {vs : List V}, RDs K H m ds vs → RDs K H m ds.reverse vs.reverse
  | _, _, .nil => .nil
  | _, _, .cons a r => by
    simp only [List.reverse_cons]
    exact r.reverse.append (.cons a .nil)
section
variable (K : PySem.W.Frag) (cv : Nat → Value) (W : WX)
def tP (e : Pt) : TO := fun σV H Q => ∃ m σ h, Lc K m H σ σV ∧ Hc K m h H ∧ WP K (wx cv W σV) m H (e σ h) fun o h' m' H' => Q o H'
end
section
variable {X : Cx} {cv : Nat → Value} {W : WX} {a b c e : Expr} {ea eb ec ee : E} {pos p2 : Pos} {lo hi : Option Expr} {pl ph : Pt}
theorem po_imp {e : Option Expr} {t t' : TO} (p : PO X e t) (i : ∀ σ H Q, t' σ H Q → t σ H Q) : PO X e t' := ⟨fun pins s σ H Q I q => p.run pins s σ H Q I (i σ H Q q)⟩
theorem snp_no : PO X none (tP X.K cv W pNo) := po_imp po_none fun σV H Q ⟨m, σ, h, L, C, w⟩ => WP.ok (a := (none : Option Int)) (h := h) w C
theorem snp_at (he : PE X e (tE X.K cv W ee)) : PO X (some e) (tP X.K cv W (pAt ee)) := po_imp (po_some he) fun σV H Q ⟨m, σ, h, L, C, w⟩ => tE.use L C w fun d h1 m1 H1 v e1 L1 C1 r1 w1 => by
  cases r1 with
  | int i => exact ⟨i, rfl, WP.ok (a := some i) (h := h1) w1 C1⟩
  | _ => exact w1.elim
theorem tP.use {α : Type} {e : Pt} {k : Option Int → L2.Hp → Prop} {kk : Option Int → Hp → R α} {post : α → Hp → List Addr → L2.Hp → Prop} {σV : L2.St} {H : L2.Hp} {m : List Addr} {σ : Lo} {h : Hp} (L : Lc X.K m H σ σV) (C : Hc X.K m h H) (w : WP X.K (wx cv W σV) m H ((e σ h).bnd kk) post)
    (q : ∀ d h1 m1 H1, Ext m m1 H H1 → Lc X.K m1 H1 σ σV → Hc X.K m1 h1 H1 → WP X.K (wx cv W σV) m1 H1 (kk d h1) post → k d H1) : tP X.K cv W e σV H k :=
  ⟨m, σ, h, L, C, w.bnd.imp fun d h1 m1 H1 e1 C1 w1 => q d h1 m1 H1 e1 (L.up e1) C1 w1⟩
theorem snd_sl (he : PE X e (tE X.K cv W ee)) (hl : PO X lo (tP X.K cv W pl)) (hh : PO X hi (tP X.K cv W ph)) : PE X (.Subscript e (.Slice lo hi none p2) pos) (tE X.K cv W (eSl ee pl ph)) :=
  pe_imp (pe_fq (pe_slice (sl_list.or sl_tupA) he hl hh)) fun σV H Q ⟨m, σ, h, L, C, w⟩ => tE.use L C w fun d h1 m1 H1 v e1 L1 C1 r1 w1 => tP.use L1 C1 w1 fun l h2 m2 H2 e2 L2' C2 w2 => tP.use L2' C2 w2 fun u h3 m3 H3 e3 L3 C3 w3 => by
    have r3 := (r1.up e2).up e3
    cases r3 with
    | @lst a o xs vs q r => exact .inl ⟨a, vs, rfl, .inl (.inr ⟨o, q⟩), fun p n => fq_new C3 (r.cut l u) w3 n⟩
    | @tup a xs vs q r =>
      refine .inr ⟨a, vs, rfl, q, fun z => ?_, fun z p n => ?_⟩
      · have e : cutV vs l u = vs := by
          unfold cutV
          rw [z.1, z.2]
          simp
        have rc := r.cut l u
        rw [e] at rc
        exact .inl (WP.ok (a := D.tup (cut xs l u)) (h := h3) w3 C3 _ (.tup q rc))
      · have e : Ext m3 m3 H3 (upd H3 p (.tup (cutV vs l u))) := Ext.new n
        exact .inl (w3 m3 _ e (C3.new n) _ (.tup (.inl (.inl upd_same)) ((r.cut l u).up e)))
    | _ => exact w3.elim
theorem snd_rev {k : Nat} {p1 p3 p4 : Pos} (he : PE X e (tE X.K cv W ee)) : PE X (.Subscript e (.Slice none none (some (.UnaryOp .USub (.Constant (.int 1) k p1) p3)) p4) pos) (tE X.K cv W (one fRev ee)) :=
  pe_imp (pe_fq (pe_revL he)) fun σV H Q ⟨m, σ, h, L, C, w⟩ => tE.use L C w fun d h1 m1 H1 v e1 L1 C1 r1 w1 => by
    cases r1 with
    | @lst a o xs vs q r => exact ⟨a, vs, rfl, .inl (.inr ⟨o, q⟩), fun p n => fq_new C1 r.reverse w1 n⟩
    | _ => exact w1.elim
end
end IP

namespace IP
open PySem PySem.Spec PyProof.Rows L2
/-! ### lists that change -/
theorem lstAt_of {K : PySem.W.Frag} {m : List Addr} {h : Hp} {H : L2.Hp} {d : D} {v : V} {n : Nat} {xs : List D} (C : Hc K m h H) (r : RD K H m d v) (e : lstAt d h = some (n, xs)) : ∃ p vs, v = .ref p ∧ m[n]? = some p ∧ h[n]? = some (.lst xs) ∧ H p = some (.lst vs) ∧ RDs K H m xs vs := by
  cases r with
  | @ref k p hp =>
    have e' : (match h[k]? with
      | some (.lst xs) => some (k, xs)
      | _ => none) = some (n, xs) := e
    cases q : h[k]? with
    | none => rw [q] at e'; cases e'
    | some o =>
      rw [q] at e'
      cases o with
      | gone => cases e'
      | lst ys =>
        cases e'
        obtain ⟨vs, q1, rs⟩ := C.obj n _ p q hp
        exact ⟨p, vs, rfl, hp, q, q1, rs⟩
  | _ => cases e
theorem isL_of {K : PySem.W.Frag} {m : List Addr} {h : Hp} {H : L2.Hp} {d : D} {v : V} (C : Hc K m h H) (r : RD K H m d v) (e : isL d h = true) : ∃ p vs, v = .ref p ∧ H p = some (.lst vs) := by
  cases r with
  | @ref k p hp =>
    have e' : (match h[k]? with
      | some (.lst _) => true
      | _ => false) = true := e
    cases q : h[k]? with
    | none => rw [q] at e'; cases e'
    | some o =>
      rw [q] at e'
      cases o with
      | gone => cases e'
      | lst ys =>
        obtain ⟨vs, q1, rs⟩ := C.obj k _ p q hp
        exact ⟨p, vs, rfl, q1⟩
  | _ => cases e
theorem RDs.set {K : PySem.W.Frag} {m : List Addr} {H : L2.Hp} {d : D} {v : V} (a : RD K H m d v) : ∀ {ds : List D} {vs : List V} (i : Nat), RDs K H m ds vs → RDs K H m (ds.set i d) (vs.set i v)
  | _, _, _, .nil => .nil
  | _, _, 0, .cons _ r => .cons a r
  | _, _, i + 1, .cons b r => .cons b (r.set a i)
theorem RDs.eraseIdx {K : PySem.W.Frag} {m : List Addr} {H : L2.Hp} : ∀ {ds : List D} {vs : List V} (i : Nat), RDs K H m ds vs → RDs K H m (ds.eraseIdx i) (vs.eraseIdx i)
  | _, _, _, .nil => by simp; exact .nil
  | _, _, 0, .cons _ r => by simp; exact r
  | _, _, i + 1, .cons b r => by simp only [List.eraseIdx_cons_succ]; exact .cons b (r.eraseIdx i)
theorem nu2 (i j : Int) : nuMin2 (.int i) (.int j) = some (.int (if j < i then j else i)) := by
  show (some (decide (j < i))).map (fun c => if c = true then V.int j else V.int i) = _
  by_cases h : j < i
  · rw [decide_eq_true h, if_pos h]; rfl
  · rw [decide_eq_false h, if_neg h]; rfl
theorem nu3 (i j k : Int) : nuMin3 (.int i) (.int j) (.int k) = some (.int (if k < (if j < i then j else i) then k else (if j < i then j else i))) := by
  unfold nuMin3
  rw [nu2]
  exact nu2 _ _
section
variable {X : Cx} {cv : Nat → Value} {W : WX} {a b c e o : Expr} {ea eb ec ee eo : E} {pos p : Pos}
theorem snd_min3 (hc : X.calm = true) (hg : Gl X "min") (hm : X.mg "min" = none) (ha : PE X a (tE X.K cv W ea)) (hb : PE X b (tE X.K cv W eb)) (hcc : PE X c (tE X.K cv W ec))
    (he : starEach [a, b, c] X.env = (false, eval a X.env) :: starEach [b, c] X.env := by rfl) (he2 : starEach [b, c] X.env = (false, eval b X.env) :: starEach [c] X.env := by rfl) (he3 : starEach [c] X.env = (false, eval c X.env) :: starEach [] X.env := by rfl)
    (hpl : (backTo pos (starEach [b, c] X.env)).any (·.1) = false := by rfl) : PE X (.Call (.Name "min" p) [a, b, c] [] pos) (tE X.K cv W (three fMin3 ea eb ec)) :=
  pe_imp (pe_callB (call_min3Nu hc) hg hm boot_min (pa_cons ha (pa_cons hb (pa_cons hcc pa_nil he3) he2) he) (by decide) (by decide) he hpl) fun σV H Q ⟨m, σ, h, L, C, w⟩ => tE.use L C w fun d h1 m1 H1 v e1 L1 C1 r1 w1 => tE.use L1 C1 w1 fun d2 h2 m2 H2 v2 e2 L2' C2 r2 w2 => tE.use L2' C2 w2 fun d3 h3 m3 H3 v3 e3 L3 C3 r3 w3 => by
    cases r1 with
    | int i =>
      cases r2 with
      | int j =>
        cases r3 with
        | int k =>
          refine ⟨_, _, _, .int (if k < (if j < i then j else i) then k else (if j < i then j else i)), rfl, ?_, WP.ok w3 C3 _ (.int _)⟩
          exact nu3 i j k
        | _ => exact w3.elim
      | _ => exact w3.elim
    | _ => exact w3.elim
/-- a new place -/
theorem new_put {K : PySem.W.Frag} {E : Nat → L2.Hp → Prop} {m : List Addr} {h : Hp} {H : L2.Hp} {Q : VK} {xs : List D} {vs : List V} {p : Addr} (C : Hc K m h H) (r : RDs K H m xs vs) (w : WP K E m H (R.ok (D.ref h.length) (h ++ [.lst xs])) fun d h' m' H' => ∀ v, RD K H' m' d v → Q v H') (n : H p = none) : Q (.ref p) (upd H p (.lst vs)) := by
  have e2 : Ext m (m ++ [p]) H (upd H p (.lst vs)) := Ext.newM n
  refine w (m ++ [p]) _ e2 (C.put n ⟨vs, upd_same, r.up e2⟩) _ (.ref ?_)
  rw [← C.len, List.getElem?_append_right (Nat.le_refl _), Nat.sub_self]
  rfl
theorem snd_newMul (ha : PE X a (tE X.K cv W ea)) (hb : PE X b (tE X.K cv W eb)) : PE X (.BinOp a .Mult b pos) (tE X.K cv W (eNewMul ea eb)) :=
  pe_imp (pe_op op_repF ha hb) fun σV H Q ⟨m, σ, h, L, C, w⟩ => tE.use L C w fun d h1 m1 H1 v e1 L1 C1 r1 w1 => tE.use L1 C1 w1 fun d2 h2 m2 H2 v2 e2 L2' C2 r2 w2 => by
    have r1' := r1.up e2
    cases r1' with
    | @lst a o xs vs qa r =>
      cases r2 with
      | int k =>
        have w' : WP X.K (wx cv W σV) m2 H2 ((if (decide (k ≤ 100000) && decide (-100000 ≤ k) && decide (xs.length * k.toNat ≤ 100000)) = true then R.ok (D.lst (List.replicate k.toNat xs).flatten) h2 else R.no).bnd newOf) _ := w2
        by_cases c : (decide (k ≤ 100000) && decide (-100000 ≤ k) && decide (xs.length * k.toNat ≤ 100000)) = true
        · rw [if_pos c] at w'
          simp only [Bool.and_eq_true, decide_eq_true_eq] at c
          refine ⟨_, k, vs, rfl, rfl, .inr ⟨_, qa⟩, by omega, by omega, by rw [← r.length]; exact line1 c.2, fun p n => new_put C2 (r.rep k.toNat) w' n⟩
        · rw [if_neg c] at w'
          exact w'.elim
      | _ => exact w2.elim
    | int i =>
      cases r2 with
      | int j =>
        have w' : WP X.K (wx cv W σV) m2 H2 ((if mulOk i j = true then R.ok (D.int (i * j)) h2 else R.no).bnd newOf) _ := w2
        by_cases c : mulOk i j = true
        · rw [if_pos c] at w'
          exact w'.elim
        · rw [if_neg c] at w'
          exact w'.elim
      | _ => exact w2.elim
    | _ => exact w2.elim
theorem rng_rel {K : PySem.W.Frag} {m : List Addr} {H : L2.Hp} : ∀ (n : Nat) (lo : Int), RDs K H m (rng lo n) ((List.range n).map fun i => V.int (lo + (i : Nat)))
  | 0, _ => .nil
  | n + 1, lo => by
    rw [List.range_succ_eq_map, List.map_cons, List.map_map]
    have e : ((fun i : Nat => V.int (lo + (i : Nat))) ∘ Nat.succ) = fun i : Nat => V.int ((lo + 1) + (i : Nat)) := by
      funext i
      show V.int (lo + ((i + 1 : Nat) : Int)) = _
      congr 1
      omega
    rw [e]
    have z : lo + ((0 : Nat) : Int) = lo := by simp
    rw [z]
    exact .cons (.int lo) (rng_rel n (lo + 1))
theorem snd_newRng {p2 pos2 : Pos} (hc : X.calm = true) (hgl : Gl X "list") (hml : X.mg "list" = none) (hg : Gl X "range") (hm : X.mg "range" = none) (ha : PE X a (tE X.K cv W ea))
    (na : starEach [a] X.env = (false, eval a X.env) :: starEach [] X.env := by rfl) (nb : starEach [.Call (.Name "range" p2) [a] [] pos2] X.env = (false, eval (.Call (.Name "range" p2) [a] [] pos2) X.env) :: starEach [] X.env := by rfl) :
    PE X (.Call (.Name "list" p) [.Call (.Name "range" p2) [a] [] pos2] [] pos) (tE X.K cv W (eNewRng ea)) :=
  pe_imp (pe_listRg hc hgl hml (prg_1 hg hm ha na) nb) fun σV H Q ⟨m, σ, h, L, C, w⟩ => tE.use L C w fun d h1 m1 H1 v e1 L1 C1 r1 w1 => by
    cases r1 with
    | int j =>
      have w' : WP X.K (wx cv W σV) m1 H1 (if (decide (0 ≤ j) && decide (j ≤ 100000)) = true then R.ok (D.ref h1.length) (h1 ++ [.lst (rng 0 j.toNat)]) else R.no) _ := w1
      by_cases c : (decide (0 ≤ j) && decide (j ≤ 100000)) = true
      · rw [if_pos c] at w'
        simp only [Bool.and_eq_true, decide_eq_true_eq] at c
        refine ⟨j, rfl, ⟨by omega, by omega, by omega, by omega, by omega⟩, fun q n => ?_⟩
        have rr := rng_rel (K := X.K) (m := m1) (H := H1) j.toNat 0
        have e : rgV 0 j = (List.range j.toNat).map fun i => V.int (0 + (i : Nat)) := by unfold rgV; rw [Int.sub_zero]
        rw [e]
        exact new_put C1 rr w' n
      · rw [if_neg c] at w'
        exact w'.elim
    | _ => exact w1.elim
theorem snd_lenR (hg : Gl X "len") (hm : X.mg "len" = none) (ha : PE X e (tE X.K cv W ea)) (he : starEach [e] X.env = (false, eval e X.env) :: starEach [] X.env := by rfl) : PE X (.Call (.Name "len" p) [e] [] pos) (tE X.K cv W (one fLenR ea)) :=
  pe_imp (pe_callB call_len_seq hg hm boot_len2 (pa_cons ha pa_nil he) (by decide) (by decide) he rfl) fun σV H Q ⟨m, σ, h, L, C, w⟩ => tE.use L C w fun d h1 m1 H1 v e1 L1 C1 r1 w1 => by
    obtain ⟨⟨n, xs⟩, el, w2⟩ := WP.opt w1
    obtain ⟨q, vs, rfl, hq, hx, q1, rs⟩ := lstAt_of C1 r1 el
    exact ⟨q, vs, rfl, .inl (.inl (.inl q1)), by rw [← rs.length]; exact WP.ok w2 C1 _ (.int _)⟩
theorem snd_idxR (ha : PE X a (tE X.K cv W ea)) (hb : PE X b (tE X.K cv W eb)) (hs : PlainIx b := by exact fun _ _ => rfl) : PE X (.Subscript a b pos) (tE X.K cv W (two fIdxR ea eb)) :=
  pe_imp (pe_ix ix_list ha hb hs) fun σV H Q ⟨m, σ, h, L, C, w⟩ => tE.use L C w fun d h1 m1 H1 v e1 L1 C1 r1 w1 => tE.use L1 C1 w1 fun d2 h2 m2 H2 v2 e2 L2' C2 r2 w2 => by
    cases r2 with
    | int i =>
      have w3 : WP X.K (wx cv W σV) m2 H2 (if 0 ≤ i then opt (lstAt d h2) fun p => opt p.2[i.toNat]? fun v => R.ok v h2 else R.no) _ := w2
      by_cases c : 0 ≤ i
      · rw [if_pos c] at w3
        obtain ⟨⟨n, xs⟩, el, w4⟩ := WP.opt w3
        obtain ⟨y, ey, w5⟩ := WP.opt w4
        obtain ⟨q, vs, rfl, hq, hx, q1, rs⟩ := lstAt_of C2 (r1.up e2) el
        obtain ⟨vy, e5, r5⟩ := rs.get ey
        refine ⟨q, vs, i, vy, rfl, rfl, .inl (.inl q1), ?_, WP.ok w5 C2 _ r5⟩
        have z := atI_nat (j := i.toNat) e5
        rwa [Int.toNat_of_nonneg c] at z
      · rw [if_neg c] at w3
        exact w3.elim
    | _ => exact w2.elim
theorem snd_popAt {apos : Pos} (ho : PE X a (tE X.K cv W ea)) (he : PE X e (tE X.K cv W ee))
    (hbase : attributeBase a "pop" X.env (eval a X.env) = eval a X.env := by rfl)
    (hfew : ((backTo pos (starEach [e] X.env)).all (fun x => !x.1) && (backToKw pos (keywordEach [] X.env)).all (fun x => x.1.isSome)
      && decide ([e].length + ([] : List Keyword).length + (if ([] : List Keyword).isEmpty then 0 else 1) < 30)) = true := by rfl)
    (hline : (apos.endLine == pos.line) = true := by rfl) (hs : starEach [e] X.env = (false, eval e X.env) :: starEach [] X.env := by rfl) (hplain : (backTo pos (starEach [] X.env)).any (·.1) = false := by rfl) :
    PE X (.Call (.Attribute a "pop" apos) [e] [] pos) (tE X.K cv W (ePop ea ee)) :=
  pe_imp (pe_bm PySem.F.plainAttrs_list PySem.F.slot_list_pop PySem.F.type_list_pop mt_popAt ho (pa_cons he pa_nil hs) hbase hfew hline hs hplain) fun σV H Q ⟨m, σ, h, L, C, w⟩ =>
    tE.use L C w fun d h1 m1 H1 v e1 L1 C1 r1 w1 => by
      by_cases ci : isL d h1 = true
      · rw [if_pos ci] at w1
        obtain ⟨p0, vs0, rfl, q0⟩ := isL_of C1 r1 ci
        refine ⟨.inl ⟨rfl, vs0, .inl (.inl q0)⟩, tE.use L1 C1 w1 fun d2 h2 m2 H2 v2 e2 L2' C2 r2 w2 => ?_⟩
        cases r2 with
        | int i =>
          have w3 : WP X.K (wx cv W σV) m2 H2 (if 0 ≤ i ∧ i ≤ 100000 then opt (lstAt d h2) fun p => opt p.2[i.toNat]? fun v => R.ok v (h2.set p.1 (.lst (p.2.eraseIdx i.toNat))) else R.no) _ := w2
          by_cases c : 0 ≤ i ∧ i ≤ 100000
          · rw [if_pos c] at w3
            obtain ⟨⟨n, xs⟩, el, w4⟩ := WP.opt w3
            obtain ⟨y, ey, w5⟩ := WP.opt w4
            obtain ⟨q, vs, eq, hq, hx, q1, rs⟩ := lstAt_of C2 (r1.up e2) el
            cases eq
            obtain ⟨vy, e5, r5⟩ := rs.get ey
            have lt : i.toNat < vs.length := (List.getElem?_eq_some_iff.mp e5).1
            have e6 : Ext m2 m2 H2 (upd H2 p0 (.lst (vs.eraseIdx i.toNat))) := Ext.wr (List.mem_of_getElem? hq) q1
            refine ⟨p0, vs, i, i.toNat, vy, rfl, rfl, q1, by omega, by omega, ?_, e5, ?_⟩
            · have z : seqIndex? i vs.length = some i.toNat := by
                rw [seqIndex_of c.1 (by omega)]
              exact z
            · exact w5 m2 _ e6 (C2.grow hq q1 (rs.eraseIdx i.toNat)) _ (r5.up e6)
          · rw [if_neg c] at w3
            exact w3.elim
        | _ => exact w2.elim
      · rw [if_neg ci] at w1
        exact w1.elim
/-- o[i] = e -/
theorem sns_sub {p2 : Pos} (he : PE X e (tE X.K cv W ee)) (ho : PE X a (tE X.K cv W ea)) (hi : PE X b (tE X.K cv W eb)) (hs : swapsWithSole [.Subscript a b p2] e pos.line X.env = pure false := by rfl) (hw : swappedStores [.Subscript a b p2] e X.env = pure none := by rfl)
    (h1 : (assignEach [.Subscript a b p2] X.env).map (·.2) = [assign (.Subscript a b p2) X.env] := by rfl)
    (hA : ∀ v, assign (.Subscript a b p2) X.env v = (do
      let ov ← holding [v] (eval a X.env)
      let iv ← holding [v, ov] (eval b X.env)
      standAt p2
      holding [v, ov, iv] (setItem ov iv v)
      release [v, ov, iv] []) := by intro _; rfl) : PS X (.Assign [.Subscript a b p2] e pos) (tS X.K cv W (sSub ea eb ee)) :=
  ps_imp (ps_asg he (pg_sub ho hi set_list hA) hs hw h1) fun De σV H ⟨m, σ, h, L, C, w⟩ => tE.stm L C w fun dv hv mv Hv vv ev Lv Cv rv wv => tE.stm Lv Cv wv fun d h1 m1 H1 v e1 L1 C1 r1 w1 => tE.stm L1 C1 w1 fun d2 h2 m2 H2 v2 e2 L2' C2 r2 w2 => by
    cases r2 with
    | int i =>
      have w3 : WS X.K cv W De m2 H2 ((if 0 ≤ i then opt (lstAt d h2) fun p => if i.toNat < p.2.length then R.ok D.non (h2.set p.1 (.lst (p.2.set i.toNat dv))) else R.no else R.no).calm.stm σ fun _ h => R.ok (Fl.nxt σ) h) := w2
      by_cases c : 0 ≤ i
      · rw [if_pos c] at w3
        cases el : lstAt d h2 with
        | none => rw [el] at w3; exact w3.elim
        | some pr =>
          obtain ⟨n, xs⟩ := pr
          rw [el] at w3
          have w4 : WS X.K cv W De m2 H2 ((if i.toNat < xs.length then (R.ok D.non (h2.set n (.lst (xs.set i.toNat dv))) : R D) else R.no).calm.stm σ fun _ h => R.ok (Fl.nxt σ) h) := w3
          by_cases lt : i.toNat < xs.length
          · rw [if_pos lt] at w4
            obtain ⟨q, vs, rfl, hq, hx, q1, rs⟩ := lstAt_of C2 (r1.up e2) el
            have ln := rs.length
            have e6 : Ext m2 m2 H2 (upd H2 q (.lst (vs.set i.toNat vv))) := Ext.wr (List.mem_of_getElem? hq) q1
            refine ⟨q, vs, i, i.toNat, rfl, rfl, q1, ?_, ?_⟩
            · unfold ixN
              rw [if_pos c, if_pos (by omega)]
            · have w5 : WS X.K cv W De m2 H2 (R.ok (Fl.nxt σ) (h2.set n (.lst (xs.set i.toNat dv)))) := w4
              exact w5 m2 _ σV e6 (C2.grow hq q1 (rs.set ((rv.up e1).up e2) i.toNat)) (L2'.up e6)
          · rw [if_neg lt] at w4
            exact w4.elim
      · rw [if_neg c] at w3
        exact w3.elim
    | _ => exact w2.elim
/-- from here on nobody changes this list -/
theorem sns_frz {i : Nat} {sts : List Stmt} {r : S} (b : PSs X sts (tS X.K cv W r)) : PSs X sts (tS X.K cv W (bCons (sFrz i) r)) := ⟨fun pins s σV H De I ⟨m, σ, h, L, C, w⟩ => by
  have w' : WS X.K cv W De m H ((match σ[i]? with
    | some (some (.ref n)) => (match h[n]? with
      | some (.lst xs) => R.ok (Fl.nxt (σ.set i (some (.lst xs)))) (h.set n .gone)
      | _ => R.no)
    | _ => R.no).thn r) := w
  cases e : σ[i]? with
  | none => rw [e] at w'; exact w'.elim
  | some o =>
    cases o with
    | none => rw [e] at w'; exact w'.elim
    | some d =>
      rw [e] at w'
      obtain ⟨v, h1, rr⟩ := L.loc i d e
      cases rr with
      | @ref n a hn =>
        have w2 : WS X.K cv W De m H ((match h[n]? with
          | some (.lst xs) => R.ok (Fl.nxt (σ.set i (some (.lst xs)))) (h.set n .gone)
          | _ => R.no).thn r) := w'
        cases q : h[n]? with
        | none => rw [q] at w2; exact w2.elim
        | some ob =>
          rw [q] at w2
          cases ob with
          | gone => exact w2.elim
          | lst xs =>
            obtain ⟨vs, q1, rs⟩ := C.obj n _ a q hn
            obtain ⟨ob, I2⟩ := I.lock q1 trivial
            have e1 : Ext m m H (upd H a (.frz ob (.lst vs))) := Ext.wr (List.mem_of_getElem? hn) q1
            have L2' := (L.up e1).set (i := i) (d := .lst xs) (v := .ref a) (.lst upd_same (rs.up e1))
            have es : σV.set i (some (.ref a)) = σV := by
              obtain ⟨hl, hv⟩ := List.getElem?_eq_some_iff.mp h1
              rw [← hv, List.set_getElem_self]
            rw [es] at L2'
            exact b.run pins s σV _ De I2 ⟨m, _, _, L2', C.kill hn q1, WS.up (show WS X.K cv W De m H (r (σ.set i (some (.lst xs))) (h.set n .gone)) from w2) e1⟩
      | _ => exact w'.elim⟩
end
section
variable {K : PySem.W.Frag}
theorem enm_at : ∀ (xs : List D) (k i : Nat) (z : D), (enmD k xs)[i]? = some z → ∃ x, xs[i]? = some x ∧ z = .tup [.int ((k + i : Nat) : Int), x]
  | [], k, i, z, h => by simp [enmD] at h
  | x :: xs, k, 0, z, h => by
    have e : D.tup [.int (k : Int), x] = z := by simpa [enmD] using h
    exact ⟨x, rfl, e.symm⟩
  | x :: xs, k, i + 1, z, h => by
    obtain ⟨y, h1, h2⟩ := enm_at xs (k + 1) i z (by simpa [enmD] using h)
    exact ⟨y, by simpa using h1, by rw [h2, show k + 1 + i = k + (i + 1) by omega]⟩
theorem enm_len : ∀ (xs : List D) (k : Nat), (enmD k xs).length = xs.length
  | [], _ => rfl
  | x :: xs, k => by simp [enmD, enm_len xs (k + 1)]
theorem wk_enm {m : List Addr} {H : L2.Hp} {a : Addr} {xs : List D} {vs : List V} {o : Obj} (q : H a = some (.frz o (.lst vs))) (r : RDs K H m xs vs) : Wk K (Ite K a) m (enmD 0 xs) H := fun i m' H' e => by
  have s1 : SqL K H' a vs := .inl (.inr ⟨o, e.frz _ _ _ q⟩)
  refine ⟨fun z hz => ?_, fun hi => ⟨vs, s1, ?_⟩⟩
  · obtain ⟨x, hx, rfl⟩ := enm_at _ _ _ _ hz
    obtain ⟨v, hv, rv⟩ := (r.up e).get hx
    refine ⟨⟨vs, v, s1, hv⟩, fun t H2 ⟨T, v', e1, n, e2, f1⟩ => ?_⟩
    have e3 := f1 vs s1
    rw [hv] at e3
    cases e3
    subst e1 e2
    have e5 : Ext m' m' H' (upd H' T (.tup [.int (i : Nat), v])) := Ext.new n
    refine ⟨e5, fun h c => c.new n, .tup (.inl (.inl upd_same)) (.cons ?_ (.cons (rv.up e5) .nil))⟩
    rw [Nat.zero_add]
    exact .int _
  · rw [enm_len] at hi
    rw [← r.length]
    exact hi
end
section
variable {X : Cx} {cv : Nat → Value} {W : WX} {e : Expr} {ea : E} {pos p : Pos}
theorem sni_enm {elts : List Expr} {kk : Nat} {tpos : Pos} (hg : Gl X "enumerate") (hm : X.mg "enumerate" = none) (ha : PE X e (tE X.K cv W ea)) (he : starEach [e] X.env = (false, eval e X.env) :: starEach [] X.env := by rfl) (hs : starEach [e] X.env = [(false, eval e X.env)] := by rfl) : PI X (.Tuple elts kk tpos) (.Call (.Name "enumerate" p) [e] [] pos) (tI X.K cv W (iEnm ea)) :=
  pi_imp (pi_enum hg hm (pa_cons ha pa_nil he) hs) fun σV H Rj ⟨m, σ, h, L, C, w⟩ => tE.use L C w fun d h1 m1 H1 v e1 L1 C1 r1 w1 => by
    cases r1 with
    | @lst a o xs vs q r => exact ⟨a, vs, rfl, .inl (.inr ⟨_, q⟩), WP.ok w1 C1 _ (wk_enm q r)⟩
    | _ => exact w1.elim
end
end IP

namespace IP
open PySem PySem.Spec PyProof.Rows L2
/-! ### the head: what the top leaves, with one more look -/
abbrev AlI : Type := Bool × Bool × List He.FnW
def obsI (fa : List He.Fa) (fn : List He.DefD) (mb : PySem.W.Frag → Bool) (K : PySem.W.Frag) : AlI := ((fa.all fun f => f.ok K) && fn.all fun d => d.ok K, mb K, fn.map fun d => He.fnW K d.at_)
def valI (fn : List He.DefD) : AlI := (true, true, fn.map He.DefD.val)
def SaysI (fa : List He.Fa) (fn : List He.DefD) (mb : PySem.W.Frag → Bool) (K : PySem.W.Frag) : Prop := obsI fa fn mb K = valI fn
def obsIG (n : Nat) (fa : List He.Fa) (fn : List He.DefD) (mb : PySem.W.Frag → Bool) (g : Addr → Option Obj) : AlI := obsI fa fn mb (He.frG g (He.asD g n))
def hookI (n : Nat) (fa : List He.Fa) (fn : List He.DefD) (mb : PySem.W.Frag → Bool) : PySem.W.Hook where
  α := AlI
  obs := fun s => obsIG n fa fn mb s.heap.get?
  val := fun _ => valI fn
  says := fun _ h => ∃ K : PySem.W.Frag, K.In h ∧ SaysI fa fn mb K
  of := fun _ _ e => ⟨_, He.frG_in, e⟩
  keeps := fun _ _ _ ⟨K, hK, c⟩ k => ⟨K, PySem.W.Frag.In.keeps hK k, c⟩
def obI (n : Nat) (fa : List He.Fa) (fn : List He.DefD) (mb : PySem.W.Frag → Bool) (s : PySem.W.SharedT) : AlI := obsIG n fa fn mb (HandSHeadRun.getT s)
theorem obI_eq {n : Nat} {fa : List He.Fa} {fn : List He.DefD} {mb : PySem.W.Frag → Bool} (s : PySem.W.SharedT) : obI n fa fn mb s = (hookI n fa fn mb).obs s.abs := by
  have e : HandSHeadRun.getT s = s.abs.heap.get? := funext fun a => HandSHeadRun.getT_eq s a
  unfold obI
  rw [e]
  rfl
section
variable {fa : List He.Fa} {fn : List He.DefD} {mb : PySem.W.Frag → Bool} {K : PySem.W.Frag}
theorem SaysI.fact (c : SaysI fa fn mb K) (i : Nat) {f : He.Fa} (h : fa[i]? = some f := by rfl) : f.ok K = true := by
  have c1 := (He.ba (show ((fa.all fun f => f.ok K) && fn.all fun d => d.ok K) = true from congrArg (fun z : AlI => z.1) c)).1
  exact List.all_eq_true.mp c1 f (List.mem_of_getElem? h)
theorem SaysI.more (c : SaysI fa fn mb K) : mb K = true := congrArg (fun z : AlI => z.2.1) c
theorem SaysI.def_ (c : SaysI fa fn mb K) (i : Nat) {d : He.DefD} (h : fn[i]? = some d := by rfl) : ∃ fd, FunD K d.name d.qual d.params d.body d.scope (d.dvs K) (d.kws K) (He.fAd K d.at_) fd := by
  have c2 := (He.ba (show ((fa.all fun f => f.ok K) && fn.all fun d => d.ok K) = true from congrArg (fun z : AlI => z.1) c)).2
  have e : fn.map (fun d => He.fnW K d.at_) = fn.map He.DefD.val := congrArg (fun z : AlI => z.2.2) c
  have e2 : (fn.map fun d => He.fnW K d.at_)[i]? = (fn.map He.DefD.val)[i]? := by rw [e]
  rw [List.getElem?_map, List.getElem?_map, h] at e2
  exact He.DefD.funD (Option.some.inj e2) (List.all_eq_true.mp c2 d (List.mem_of_getElem? h))
end
/-! constants of the text -/
section
variable {K : PySem.W.Frag} {mg : Str → Option Value} {h : Heap}
theorem cst_int (KX : K.In h) (G : h.Ns mainGlobals mg) {x : Str} {i : Int} (c : (He.Fa.int x i).ok K = true) (hd : (x == ("__debug__" : Str)) = false := by decide) :
    ∀ {X : Cx} {cv : Nat → Value} {W : WX} {pos : Pos}, Gl X x → ∀ (hm : X.mg = mg) (hK : X.K = K), PE X (.Name x pos) (tE X.K cv W (eCst (.int i))) := fun hg hm hK => by
  obtain ⟨t, e⟩ := He.int_ok KX G c
  subst hm
  exact snd_glob (v := V.int i) hg e ⟨t, rfl⟩ (fun _ _ => .int i) hd
theorem cst_tup (KX : K.In h) (G : h.Ns mainGlobals mg) {x : Str} {ds : List D} {dvs : List He.Dv} (c : (He.Fa.glo x).ok K = true) (m : He.tupB K x dvs = true) (r : ∀ (K : PySem.W.Frag) H m, RDs K H m ds (dvs.map (He.Dv.v K))) (hd : (x == ("__debug__" : Str)) = false := by decide) :
    ∀ {X : Cx} {cv : Nat → Value} {W : WX} {pos : Pos}, Gl X x → ∀ (hm : X.mg = mg) (hK : X.K = K), PE X (.Name x pos) (tE X.K cv W (eCst (.tup ds))) := fun hg hm hK => by
  subst hm hK
  exact snd_glob hg (He.glo_ok KX G c) (v := .ref _) rfl (fun H m' => .tup (He.tupB_ok m H) (r _ H m')) hd
end
/-! ### the law's end -/
theorem scr_start {K : PySem.W.Frag} {H : L2.Hp} {a : Addr} {ns : List Int} (ho : Only H) (q : SqL K H a (ns.map V.int)) : RD K H [] (.scr (ns.map D.int)) (.ref a) := by
  have r : ∀ ns : List Int, RDs K H [] (ns.map D.int) (ns.map V.int) := fun ns => by
    induction ns with
    | nil => exact .nil
    | cons i r ih => exact .cons (.int i) ih
  refine .scr ?_ (r ns)
  rcases q with (q | q) | q
  · rcases ho a with z | ⟨o, xs, z⟩
    · rw [z] at q; cases q
    · rw [z] at q; cases q
  · exact .inl q
  · exact .inr q
/-- the law gives True -/
theorem law_yes {K : PySem.W.Frag} {cv : Nat → Value} {f : Fn} {H : L2.Hp} {a : Addr} {ns : List Int} (ho : Only H) (q : SqL K H a (ns.map V.int)) (h : ∃ h', f [.scr (ns.map D.int)] [] = .ok (.bl true) h') :
    spI K cv 1 f [.ref a] H (fun v _ => v = .bl true) E0 := by
  obtain ⟨h', e⟩ := h
  refine ⟨[], [], [.scr (ns.map D.int)], ⟨rfl, .nil, fun n o a e => (by cases e), fun a ha => (by cases ha)⟩, .cons (scr_start ho q) .nil, rfl, ?_⟩
  rw [e]
  intro m' H' _ _ v r
  cases r
  rfl
end IP

namespace K09
open PySem IP Sh
/-! ### the defs of the text, as terms of IP -/
def b_law : S := (bCons (sAsg (gLoc 3) (two fAdd (eLc [1, 2] (gTup 2 (gCons (gLoc 1) (gCons (gLoc 2) gNil))) (iSeq (eSl (eCall 2 f__law_wants (aCons (eLoc 0) (aCons (eCst (D.int (0 : Int))) aNil))) pNo (pAt (eCst (D.int (6 : Int)))))) (tVal (two fLt (eLoc 2) (eCst (D.int (100 : Int))))) (eTup (aCons (eLoc 1) (aCons (eLoc 2) aNil)))) (eLst (aCons (eTup (aCons (eCst (D.int (1 : Int))) (aCons (eCst (D.int (5 : Int))) aNil))) aNil))))
 (bCons (sAsg (gLoc 4) (eCall 3 f__law_pick (aCons (eLoc 0) (aCons (eCst (D.int (20 : Int))) (aCons (eCst (D.int (60 : Int))) aNil)))))
 (bCons (sAsg (gTup 2 (gCons (gLoc 5) (gCons (gLoc 6) gNil))) (eTup (aCons (eCall 2 f_shares (aCons (eLoc 4) (aCons (eLoc 3) aNil))) (aCons (eCall 2 f_level (aCons (eLoc 4) (aCons (eLoc 3) aNil))) aNil))))
 (bCons (sIf (tVal (one fIsN (eLoc 6)))
 (bCons (sRet (two fEq (eLoc 5) (eLc [1, 2] (gTup 2 (gCons (gLoc 1) (gCons (gLoc 2) gNil))) (iSeq (eLoc 3)) tYes (eTup (aCons (eLoc 2) (aCons (eCst (D.int (1 : Int))) aNil))))))
 bNil)
 bNil)
 (bCons (sFor (gLoc 7) (iRng (eCst (D.int (10 : Int))))
 (bCons (sAsg (gTup 2 (gCons (gLoc 8) (gCons (gLoc 9) gNil))) (eTup (aCons (eLoc 4) (aCons (eNewMul (eLst (aCons (eCst (D.int (0 : Int))) aNil)) (one fLen (eLoc 3))) aNil))))
 (bCons (sAsg (gLoc 10) (eNewRng (one fLen (eLoc 3))))
 (bCons (sFor (gLoc 11) (iRng (one fLen (eLoc 3)))
 (bCons (sAsg (gLoc 12) (ePop (eLoc 10) (eCall 3 f__law_pick (aCons (eLoc 0) (aCons (two fAdd (two fAdd (eCst (D.int (30 : Int))) (two fMul (eCst (D.int (20 : Int))) (eLoc 7))) (eLoc 11)) (aCons (one fLenR (eLoc 10)) aNil))))))
 (bCons (sSub (eLoc 9) (eLoc 12) (three fMin3 (eLoc 8) (two fIdx (two fIdx (eLoc 3) (eLoc 12)) (eCst (D.int (1 : Int)))) (eCall 3 f__law_pick (aCons (eLoc 0) (aCons (two fAdd (two fAdd (eCst (D.int (40 : Int))) (two fMul (eCst (D.int (20 : Int))) (eLoc 7))) (eLoc 11)) (aCons (eCst (D.int (40 : Int))) aNil))))))
 (bCons (sAsg (gLoc 8) (two fSub (eLoc 8) (two fIdxR (eLoc 9) (eLoc 12))))
 bNil))))
 (bCons (sFor (gLoc 12) (iRng (one fLen (eLoc 3)))
 (bCons (sAsg (gLoc 13) (two fMin (eLoc 8) (two fSub (two fIdx (two fIdx (eLoc 3) (eLoc 12)) (eCst (D.int (1 : Int)))) (two fIdxR (eLoc 9) (eLoc 12)))))
 (bCons (sSub (eLoc 9) (eLoc 12) (two fAdd (two fIdxR (eLoc 9) (eLoc 12)) (eLoc 13)))
 (bCons (sAsg (gLoc 8) (two fSub (eLoc 8) (eLoc 13)))
 bNil))))
 (bCons (sIf (tVal (two fGt (eLoc 8) (eCst (D.int (0 : Int)))))
 (bCons (sRet (eCst (D.bl false)))
 bNil)
 bNil)
 (bCons (sFrz 9)
 (bCons (sAsg (gLoc 15) (eLc [14, 1, 2] (gTup 2 (gCons (gTup 2 (gCons (gLoc 1) (gCons (gLoc 2) gNil))) (gCons (gLoc 14) gNil))) (iZip (eLoc 3) (eLoc 9)) (tVal (two fLt (eLoc 14) (eLoc 2))) (eTup (aCons (eLoc 14) (aCons (eLoc 1) aNil)))))
 (bCons (sIf (tOr (tVal (two fEq (eLoc 15) (eLst aNil))) (tVal (one fAll (eLc [16] (gLoc 16) (iSeq (eLoc 15)) tYes (eCall 2 f__law_less (aCons (eLoc 6) (aCons (eLoc 16) aNil)))))))
 (bCons (sRet (eCst (D.bl false)))
 bNil)
 bNil)
 (bCons (sAsg (gLoc 17) (eLc [11, 14] (gTup 2 (gCons (gLoc 11) (gCons (gLoc 14) gNil))) (iEnm (eLoc 9)) (tVal (eCall 2 f__law_less (aCons (two fIdx (eLoc 5) (eLoc 11)) (aCons (eTup (aCons (eLoc 14) (aCons (eCst (D.int (1 : Int))) aNil))) aNil)))) (eLoc 11)))
 (bCons (sAsg (gLoc 18) (eLc [11, 14] (gTup 2 (gCons (gLoc 11) (gCons (gLoc 14) gNil))) (iEnm (eLoc 9)) (tVal (eCall 2 f__law_less (aCons (eTup (aCons (eLoc 14) (aCons (eCst (D.int (1 : Int))) aNil))) (aCons (two fIdx (eLoc 5) (eLoc 11)) aNil)))) (eLoc 11)))
 (bCons (sIf (tVal (two fNe (two fEq (eLoc 17) (eLst aNil)) (two fEq (eLoc 18) (eLst aNil))))
 (bCons (sRet (eCst (D.bl false)))
 bNil)
 bNil)
 (bCons (sFor (gLoc 11) (iSeq (eLoc 17))
 (bCons (sIf (tVal (two fEq (eLc [19] (gLoc 19) (iSeq (eLoc 18)) (tVal (eCall 2 f__law_less (aCons (eTup (aCons (two fMul (two fIdx (eLoc 9) (eLoc 19)) (two fIdx (two fIdx (eLoc 3) (eLoc 11)) (eCst (D.int (0 : Int))))) (aCons (two fIdx (two fIdx (eLoc 3) (eLoc 19)) (eCst (D.int (0 : Int)))) aNil))) (aCons (two fIdx (eLoc 5) (eLoc 11)) aNil)))) (eLoc 19)) (eLst aNil)))
 (bCons (sRet (eCst (D.bl false)))
 bNil)
 bNil)
 bNil))
 bNil)))))))))))))
 (bCons (sRet (eCall 2 f__law_same (aCons (eCall 1 f__law_sum (aCons (eLoc 5) aNil)) (aCons (eTup (aCons (eLoc 4) (aCons (eCst (D.int (1 : Int))) aNil))) aNil))))
 bNil))))))
def f_law : Fn := mkFn 1 20 b_law
end K09

namespace K09
open PySem PySem.Spec PyProof.Rows L2 IP Sh
/-! ### the text -/
def top (i : Nat) : Stmt := PySem.Challenge.pw_cellyard_k09_whole_least_served.main.body.getD i (.Pass ⟨0, 0, 0, 0⟩)
abbrev s_is_whole : Stmt := top 6
abbrev N_is_whole : List Str := ["thing", "least", "most"]
abbrev P_is_whole : List Str := ["thing", "least", "most"]
theorem sc_is_whole : FnScope N_is_whole P_is_whole (defScope s_is_whole) := ⟨rfl, rfl, rfl, by decide +kernel, rfl, by decide +kernel, by decide +kernel⟩
abbrev s_look_whole : Stmt := top 7
abbrev N_look_whole : List Str := ["thing", "least", "most"]
abbrev P_look_whole : List Str := ["thing", "least", "most"]
theorem sc_look_whole : FnScope N_look_whole P_look_whole (defScope s_look_whole) := ⟨rfl, rfl, rfl, by decide +kernel, rfl, by decide +kernel, by decide +kernel⟩
abbrev s_lowest : Stmt := top 8
abbrev N_lowest : List Str := ["top", "below", "one", "other"]
abbrev P_lowest : List Str := ["top", "below"]
theorem sc_lowest : FnScope N_lowest P_lowest (defScope s_lowest) := ⟨rfl, rfl, rfl, by decide +kernel, rfl, by decide +kernel, by decide +kernel⟩
abbrev s_plus : Stmt := top 9
abbrev N_plus : List Str := ["one", "other"]
abbrev P_plus : List Str := ["one", "other"]
theorem sc_plus : FnScope N_plus P_plus (defScope s_plus) := ⟨rfl, rfl, rfl, by decide +kernel, rfl, by decide +kernel, by decide +kernel⟩
abbrev s_minus : Stmt := top 10
abbrev N_minus : List Str := ["one", "other"]
abbrev P_minus : List Str := ["one", "other"]
theorem sc_minus : FnScope N_minus P_minus (defScope s_minus) := ⟨rfl, rfl, rfl, by decide +kernel, rfl, by decide +kernel, by decide +kernel⟩
abbrev s_times : Stmt := top 11
abbrev N_times : List Str := ["one", "many"]
abbrev P_times : List Str := ["one", "many"]
theorem sc_times : FnScope N_times P_times (defScope s_times) := ⟨rfl, rfl, rfl, by decide +kernel, rfl, by decide +kernel, by decide +kernel⟩
abbrev s_parted : Stmt := top 12
abbrev N_parted : List Str := ["one", "many"]
abbrev P_parted : List Str := ["one", "many"]
theorem sc_parted : FnScope N_parted P_parted (defScope s_parted) := ⟨rfl, rfl, rfl, by decide +kernel, rfl, by decide +kernel, by decide +kernel⟩
abbrev s_is_less : Stmt := top 13
abbrev N_is_less : List Str := ["one", "other"]
abbrev P_is_less : List Str := ["one", "other"]
theorem sc_is_less : FnScope N_is_less P_is_less (defScope s_is_less) := ⟨rfl, rfl, rfl, by decide +kernel, rfl, by decide +kernel, by decide +kernel⟩
abbrev s_lesser : Stmt := top 14
abbrev N_lesser : List Str := ["one", "other"]
abbrev P_lesser : List Str := ["one", "other"]
theorem sc_lesser : FnScope N_lesser P_lesser (defScope s_lesser) := ⟨rfl, rfl, rfl, by decide +kernel, rfl, by decide +kernel, by decide +kernel⟩
abbrev s_total : Stmt := top 15
abbrev N_total : List Str := ["fractions", "made", "one"]
abbrev P_total : List Str := ["fractions"]
theorem sc_total : FnScope N_total P_total (defScope s_total) := ⟨rfl, rfl, rfl, by decide +kernel, rfl, by decide +kernel, by decide +kernel⟩
abbrev s_are_wants : Stmt := top 21
abbrev N_are_wants : List Str := ["thing", "one", "heft", "most"]
abbrev P_are_wants : List Str := ["thing"]
theorem sc_are_wants : FnScope N_are_wants P_are_wants (defScope s_are_wants) := ⟨rfl, rfl, rfl, by decide +kernel, rfl, by decide +kernel, by decide +kernel⟩
abbrev s_level_of : Stmt := top 22
abbrev N_level_of : List Str := ["amount", "wants", "heft", "most", "left", "open_ones", "level", "one", "full"]
abbrev P_level_of : List Str := ["amount", "wants"]
theorem sc_level_of : FnScope N_level_of P_level_of (defScope s_level_of) := ⟨rfl, rfl, rfl, by decide +kernel, rfl, by decide +kernel, by decide +kernel⟩
abbrev s_parts_of : Stmt := top 23
abbrev N_parts_of : List Str := ["amount", "wants", "level", "heft", "most"]
abbrev P_parts_of : List Str := ["amount", "wants"]
theorem sc_parts_of : FnScope N_parts_of P_parts_of (defScope s_parts_of) := ⟨rfl, rfl, rfl, by decide +kernel, rfl, by decide +kernel, by decide +kernel⟩
abbrev s_fractions_of : Stmt := top 24
abbrev N_fractions_of : List Str := ["wants", "heft", "most"]
abbrev P_fractions_of : List Str := ["wants"]
theorem sc_fractions_of : FnScope N_fractions_of P_fractions_of (defScope s_fractions_of) := ⟨rfl, rfl, rfl, by decide +kernel, rfl, by decide +kernel, by decide +kernel⟩
abbrev s_look_all : Stmt := top 25
abbrev N_look_all : List Str := ["amount", "wants"]
abbrev P_look_all : List Str := ["amount", "wants"]
theorem sc_look_all : FnScope N_look_all P_look_all (defScope s_look_all) := ⟨rfl, rfl, rfl, by decide +kernel, rfl, by decide +kernel, by decide +kernel⟩
abbrev s_shares : Stmt := top 26
abbrev N_shares : List Str := ["amount", "wants"]
abbrev P_shares : List Str := ["amount", "wants"]
theorem sc_shares : FnScope N_shares P_shares (defScope s_shares) := ⟨rfl, rfl, rfl, by decide +kernel, rfl, by decide +kernel, by decide +kernel⟩
abbrev s_level : Stmt := top 27
abbrev N_level : List Str := ["amount", "wants"]
abbrev P_level : List Str := ["amount", "wants"]
theorem sc_level : FnScope N_level P_level (defScope s_level) := ⟨rfl, rfl, rfl, by decide +kernel, rfl, by decide +kernel, by decide +kernel⟩
abbrev s__law_pick : Stmt := top 29
abbrev N__law_pick : List Str := ["_law_script", "_law_k", "_law_many", "_law_cell", "_law_rest", "_law_turn", "_law_drawn"]
abbrev P__law_pick : List Str := ["_law_script", "_law_k", "_law_many"]
theorem sc__law_pick : FnScope N__law_pick P__law_pick (defScope s__law_pick) := ⟨rfl, rfl, rfl, by decide +kernel, rfl, by decide +kernel, by decide +kernel⟩
abbrev s__law_wants : Stmt := top 30
abbrev N__law_wants : List Str := ["_law_script", "_law_at", "_law_made", "_law_k", "_law_weight"]
abbrev P__law_wants : List Str := ["_law_script", "_law_at"]
theorem sc__law_wants : FnScope N__law_wants P__law_wants (defScope s__law_wants) := ⟨rfl, rfl, rfl, by decide +kernel, rfl, by decide +kernel, by decide +kernel⟩
abbrev s__law_less : Stmt := top 31
abbrev N__law_less : List Str := ["_law_one", "_law_other"]
abbrev P__law_less : List Str := ["_law_one", "_law_other"]
theorem sc__law_less : FnScope N__law_less P__law_less (defScope s__law_less) := ⟨rfl, rfl, rfl, by decide +kernel, rfl, by decide +kernel, by decide +kernel⟩
abbrev s__law_same : Stmt := top 32
abbrev N__law_same : List Str := ["_law_one", "_law_other"]
abbrev P__law_same : List Str := ["_law_one", "_law_other"]
theorem sc__law_same : FnScope N__law_same P__law_same (defScope s__law_same) := ⟨rfl, rfl, rfl, by decide +kernel, rfl, by decide +kernel, by decide +kernel⟩
abbrev s__law_sum : Stmt := top 33
abbrev N__law_sum : List Str := ["_law_parts", "_law_top", "_law_below", "_law_one", "_law_other"]
abbrev P__law_sum : List Str := ["_law_parts"]
theorem sc__law_sum : FnScope N__law_sum P__law_sum (defScope s__law_sum) := ⟨rfl, rfl, rfl, by decide +kernel, rfl, by decide +kernel, by decide +kernel⟩
abbrev s_law : Stmt := top 34
abbrev N_law : List Str := ["_law_script", "_law_weight", "_law_most", "_law_wants_here", "_law_amount", "_law_parts", "_law_high", "_law_turn", "_law_left", "_law_other", "_law_order", "_law_k", "_law_at", "_law_more", "_law_much", "_law_short", "_law_pair", "_law_better", "_law_worse", "_law_j"]
abbrev P_law : List Str := ["_law_script"]
theorem sc_law : FnScope N_law P_law (defScope s_law) := ⟨rfl, rfl, rfl, by decide +kernel, rfl, by decide +kernel, by decide +kernel⟩
structure Tx (K : PySem.W.Frag) (mg : Str → Option Value) where
  n_all : mg "all" = none
  n_bool : mg "bool" = none
  n_enumerate : mg "enumerate" = none
  n_int : mg "int" = none
  n_isinstance : mg "isinstance" = none
  n_len : mg "len" = none
  n_list : mg "list" = none
  n_max : mg "max" = none
  n_min : mg "min" = none
  n_range : mg "range" = none
  n_sum : mg "sum" = none
  n_tuple : mg "tuple" = none
  n_zip : mg "zip" = none
  c_MOST_AMOUNT : ∀ {X : Cx} {cv : Nat → Value} {W : WX} {pos : Pos}, Gl X "MOST_AMOUNT" → ∀ (hm : X.mg = mg := by rfl) (hK : X.K = K := by rfl), PE X (.Name "MOST_AMOUNT" pos) (tE X.K cv W (eCst (D.int (9999 : Int))))
  c_MOST_HEFT : ∀ {X : Cx} {cv : Nat → Value} {W : WX} {pos : Pos}, Gl X "MOST_HEFT" → ∀ (hm : X.mg = mg := by rfl) (hK : X.K = K := by rfl), PE X (.Name "MOST_HEFT" pos) (tE X.K cv W (eCst (D.int (100 : Int))))
  c_MOST_WANT : ∀ {X : Cx} {cv : Nat → Value} {W : WX} {pos : Pos}, Gl X "MOST_WANT" → ∀ (hm : X.mg = mg := by rfl) (hK : X.K = K := by rfl), PE X (.Name "MOST_WANT" pos) (tE X.K cv W (eCst (D.int (999 : Int))))
  c_MOST_WANTS : ∀ {X : Cx} {cv : Nat → Value} {W : WX} {pos : Pos}, Gl X "MOST_WANTS" → ∀ (hm : X.mg = mg := by rfl) (hK : X.K = K := by rfl), PE X (.Name "MOST_WANTS" pos) (tE X.K cv W (eCst (D.int (12 : Int))))
  c_NOTHING : ∀ {X : Cx} {cv : Nat → Value} {W : WX} {pos : Pos}, Gl X "NOTHING" → ∀ (hm : X.mg = mg := by rfl) (hK : X.K = K := by rfl), PE X (.Name "NOTHING" pos) (tE X.K cv W (eCst (D.tup [(D.int (0 : Int)), (D.int (1 : Int))])))
  d_is_whole : FuncData
  F_is_whole : FunD K "is_whole" "is_whole" (defArgs s_is_whole) (defBody s_is_whole) (defScope s_is_whole) [] [] (He.ga K "is_whole") d_is_whole
  g_is_whole : mg "is_whole" = some (.ref (He.ga K "is_whole"))
  b_is_whole : Binds K d_is_whole P_is_whole []
  d_look_whole : FuncData
  F_look_whole : FunD K "look_whole" "look_whole" (defArgs s_look_whole) (defBody s_look_whole) (defScope s_look_whole) [] [] (He.ga K "look_whole") d_look_whole
  g_look_whole : mg "look_whole" = some (.ref (He.ga K "look_whole"))
  b_look_whole : Binds K d_look_whole P_look_whole []
  d_lowest : FuncData
  F_lowest : FunD K "lowest" "lowest" (defArgs s_lowest) (defBody s_lowest) (defScope s_lowest) [] [] (He.ga K "lowest") d_lowest
  g_lowest : mg "lowest" = some (.ref (He.ga K "lowest"))
  b_lowest : Binds K d_lowest P_lowest []
  d_plus : FuncData
  F_plus : FunD K "plus" "plus" (defArgs s_plus) (defBody s_plus) (defScope s_plus) [] [] (He.ga K "plus") d_plus
  g_plus : mg "plus" = some (.ref (He.ga K "plus"))
  b_plus : Binds K d_plus P_plus []
  d_minus : FuncData
  F_minus : FunD K "minus" "minus" (defArgs s_minus) (defBody s_minus) (defScope s_minus) [] [] (He.ga K "minus") d_minus
  g_minus : mg "minus" = some (.ref (He.ga K "minus"))
  b_minus : Binds K d_minus P_minus []
  d_times : FuncData
  F_times : FunD K "times" "times" (defArgs s_times) (defBody s_times) (defScope s_times) [] [] (He.ga K "times") d_times
  g_times : mg "times" = some (.ref (He.ga K "times"))
  b_times : Binds K d_times P_times []
  d_parted : FuncData
  F_parted : FunD K "parted" "parted" (defArgs s_parted) (defBody s_parted) (defScope s_parted) [] [] (He.ga K "parted") d_parted
  g_parted : mg "parted" = some (.ref (He.ga K "parted"))
  b_parted : Binds K d_parted P_parted []
  d_is_less : FuncData
  F_is_less : FunD K "is_less" "is_less" (defArgs s_is_less) (defBody s_is_less) (defScope s_is_less) [] [] (He.ga K "is_less") d_is_less
  g_is_less : mg "is_less" = some (.ref (He.ga K "is_less"))
  b_is_less : Binds K d_is_less P_is_less []
  d_lesser : FuncData
  F_lesser : FunD K "lesser" "lesser" (defArgs s_lesser) (defBody s_lesser) (defScope s_lesser) [] [] (He.ga K "lesser") d_lesser
  g_lesser : mg "lesser" = some (.ref (He.ga K "lesser"))
  b_lesser : Binds K d_lesser P_lesser []
  d_total : FuncData
  F_total : FunD K "total" "total" (defArgs s_total) (defBody s_total) (defScope s_total) [] [] (He.ga K "total") d_total
  g_total : mg "total" = some (.ref (He.ga K "total"))
  b_total : Binds K d_total P_total []
  d_are_wants : FuncData
  F_are_wants : FunD K "are_wants" "are_wants" (defArgs s_are_wants) (defBody s_are_wants) (defScope s_are_wants) [] [] (He.ga K "are_wants") d_are_wants
  g_are_wants : mg "are_wants" = some (.ref (He.ga K "are_wants"))
  b_are_wants : Binds K d_are_wants P_are_wants []
  d_level_of : FuncData
  F_level_of : FunD K "level_of" "level_of" (defArgs s_level_of) (defBody s_level_of) (defScope s_level_of) [] [] (He.ga K "level_of") d_level_of
  g_level_of : mg "level_of" = some (.ref (He.ga K "level_of"))
  b_level_of : Binds K d_level_of P_level_of []
  d_parts_of : FuncData
  F_parts_of : FunD K "parts_of" "parts_of" (defArgs s_parts_of) (defBody s_parts_of) (defScope s_parts_of) [] [] (He.ga K "parts_of") d_parts_of
  g_parts_of : mg "parts_of" = some (.ref (He.ga K "parts_of"))
  b_parts_of : Binds K d_parts_of P_parts_of []
  d_fractions_of : FuncData
  F_fractions_of : FunD K "fractions_of" "fractions_of" (defArgs s_fractions_of) (defBody s_fractions_of) (defScope s_fractions_of) [] [] (He.ga K "fractions_of") d_fractions_of
  g_fractions_of : mg "fractions_of" = some (.ref (He.ga K "fractions_of"))
  b_fractions_of : Binds K d_fractions_of P_fractions_of []
  d_look_all : FuncData
  F_look_all : FunD K "look_all" "look_all" (defArgs s_look_all) (defBody s_look_all) (defScope s_look_all) [] [] (He.ga K "look_all") d_look_all
  g_look_all : mg "look_all" = some (.ref (He.ga K "look_all"))
  b_look_all : Binds K d_look_all P_look_all []
  d_shares : FuncData
  F_shares : FunD K "shares" "shares" (defArgs s_shares) (defBody s_shares) (defScope s_shares) [] [] (He.ga K "shares") d_shares
  g_shares : mg "shares" = some (.ref (He.ga K "shares"))
  b_shares : Binds K d_shares P_shares []
  d_level : FuncData
  F_level : FunD K "level" "level" (defArgs s_level) (defBody s_level) (defScope s_level) [] [] (He.ga K "level") d_level
  g_level : mg "level" = some (.ref (He.ga K "level"))
  b_level : Binds K d_level P_level []
  d__law_pick : FuncData
  F__law_pick : FunD K "_law_pick" "_law_pick" (defArgs s__law_pick) (defBody s__law_pick) (defScope s__law_pick) [] [] (He.ga K "_law_pick") d__law_pick
  g__law_pick : mg "_law_pick" = some (.ref (He.ga K "_law_pick"))
  b__law_pick : Binds K d__law_pick P__law_pick []
  d__law_wants : FuncData
  F__law_wants : FunD K "_law_wants" "_law_wants" (defArgs s__law_wants) (defBody s__law_wants) (defScope s__law_wants) [] [] (He.ga K "_law_wants") d__law_wants
  g__law_wants : mg "_law_wants" = some (.ref (He.ga K "_law_wants"))
  b__law_wants : Binds K d__law_wants P__law_wants []
  d__law_less : FuncData
  F__law_less : FunD K "_law_less" "_law_less" (defArgs s__law_less) (defBody s__law_less) (defScope s__law_less) [] [] (He.ga K "_law_less") d__law_less
  g__law_less : mg "_law_less" = some (.ref (He.ga K "_law_less"))
  b__law_less : Binds K d__law_less P__law_less []
  d__law_same : FuncData
  F__law_same : FunD K "_law_same" "_law_same" (defArgs s__law_same) (defBody s__law_same) (defScope s__law_same) [] [] (He.ga K "_law_same") d__law_same
  g__law_same : mg "_law_same" = some (.ref (He.ga K "_law_same"))
  b__law_same : Binds K d__law_same P__law_same []
  d__law_sum : FuncData
  F__law_sum : FunD K "_law_sum" "_law_sum" (defArgs s__law_sum) (defBody s__law_sum) (defScope s__law_sum) [] [] (He.ga K "_law_sum") d__law_sum
  g__law_sum : mg "_law_sum" = some (.ref (He.ga K "_law_sum"))
  b__law_sum : Binds K d__law_sum P__law_sum []
  d_law : FuncData
  F_law : FunD K "law" "law" (defArgs s_law) (defBody s_law) (defScope s_law) [] [] (He.ga K "law") d_law
  g_law : mg "law" = some (.ref (He.ga K "law"))
  b_law : Binds K d_law P_law []
section
variable {P : Program} {w : World} {K : PySem.W.Frag} {mg : Str → Option Value} {base : Heap} {cv : Nat → Value}
theorem ok_is_whole (T : Tx K mg) : FnOk P w K mg base (L2.CX P w) 1 (He.ga K "is_whole") T.d_is_whole P_is_whole (spI K cv 3 f_is_whole) :=
  have nd := sc_is_whole.nd
  fn_I (b := b_is_whole) (g := f_is_whole) T.F_is_whole sc_is_whole rfl rfl rfl fun cdv A outer s H E hr tk =>
 (sns_cons (sns_ret (snd_and (snd_isi (t := Ty.int) rfl T.n_isinstance rfl T.n_int (by decide +kernel) (sv 0)) (snd_and (snd_not (snd_isi (t := Ty.bool) rfl T.n_isinstance rfl T.n_bool (by decide +kernel) (sv 0))) (snd_one (snd_chain op_le op_le ops_le ops_le (sv 1) (sv 0) (sv 2))))))
 sns_nil)
theorem ok_look_whole (T : Tx K mg) : FnOk P w K mg base (L2.CX P w) 2 (He.ga K "look_whole") T.d_look_whole P_look_whole (spI K cv 3 f_look_whole) :=
  have nd := sc_look_whole.nd
  fn_I (b := b_look_whole) (g := f_look_whole) T.F_look_whole sc_look_whole rfl rfl rfl fun cdv A outer s H E hr tk =>
 (sns_cons (sns_if (snt_not (snt_val (snd_call (ok_is_whole T) rfl (hr.mono (by decide)) tk rfl T.g_is_whole T.F_is_whole.kp T.b_is_whole (sna_cons (sv 0) (sna_cons (sv 1) (sna_cons (sv 2) sna_nil))))))
 (sns_cons sns_no
 sns_nil)
 sns_nil)
 sns_nil)
theorem ok_lowest (T : Tx K mg) : FnOk P w K mg base (L2.CX P w) 1 (He.ga K "lowest") T.d_lowest P_lowest (spI K cv 2 f_lowest) :=
  have nd := sc_lowest.nd
  fn_I (b := b_lowest) (g := f_lowest) T.F_lowest sc_lowest rfl rfl rfl fun cdv A outer s H E hr tk =>
 (sns_cons (sns_par (i := 2) (j := 3) rfl nd rfl rfl (by decide) rfl rfl (sv 0) (sv 1) (by rfl))
 (sns_cons (sns_whl PassesOwn.leaving (snt_cmp (op_neD hr.units) ops_ne (sv 3) snd_int (nomark _))
 (sns_cons (sns_par (i := 2) (j := 3) rfl nd rfl rfl (by decide) rfl rfl (sv 3) (snd_mod (sv 2) (sv 3)) (by rfl))
 sns_nil))
 (sns_cons (sns_ret (snd_tup (sna_cons (snd_fdv (sv 0) (sv 2)) (sna_cons (snd_fdv (sv 1) (sv 2)) sna_nil))))
 sns_nil)))
theorem ok_plus (T : Tx K mg) : FnOk P w K mg base (L2.CX P w) 2 (He.ga K "plus") T.d_plus P_plus (spI K cv 2 f_plus) :=
  have nd := sc_plus.nd
  fn_I (b := b_plus) (g := f_plus) T.F_plus sc_plus rfl rfl rfl fun cdv A outer s H E hr tk =>
 (sns_cons (sns_ret (snd_call (ok_lowest T) rfl (hr.mono (by decide)) tk rfl T.g_lowest T.F_lowest.kp T.b_lowest (sna_cons (snd_add (snd_mul (snd_idx (sv 0) snd_int) (snd_idx (sv 1) snd_int)) (snd_mul (snd_idx (sv 1) snd_int) (snd_idx (sv 0) snd_int))) (sna_cons (snd_mul (snd_idx (sv 0) snd_int) (snd_idx (sv 1) snd_int)) sna_nil))))
 sns_nil)
theorem ok_minus (T : Tx K mg) : FnOk P w K mg base (L2.CX P w) 2 (He.ga K "minus") T.d_minus P_minus (spI K cv 2 f_minus) :=
  have nd := sc_minus.nd
  fn_I (b := b_minus) (g := f_minus) T.F_minus sc_minus rfl rfl rfl fun cdv A outer s H E hr tk =>
 (sns_cons (sns_ret (snd_call (ok_lowest T) rfl (hr.mono (by decide)) tk rfl T.g_lowest T.F_lowest.kp T.b_lowest (sna_cons (snd_sub (snd_mul (snd_idx (sv 0) snd_int) (snd_idx (sv 1) snd_int)) (snd_mul (snd_idx (sv 1) snd_int) (snd_idx (sv 0) snd_int))) (sna_cons (snd_mul (snd_idx (sv 0) snd_int) (snd_idx (sv 1) snd_int)) sna_nil))))
 sns_nil)
theorem ok_times (T : Tx K mg) : FnOk P w K mg base (L2.CX P w) 2 (He.ga K "times") T.d_times P_times (spI K cv 2 f_times) :=
  have nd := sc_times.nd
  fn_I (b := b_times) (g := f_times) T.F_times sc_times rfl rfl rfl fun cdv A outer s H E hr tk =>
 (sns_cons (sns_ret (snd_call (ok_lowest T) rfl (hr.mono (by decide)) tk rfl T.g_lowest T.F_lowest.kp T.b_lowest (sna_cons (snd_mul (snd_idx (sv 0) snd_int) (sv 1)) (sna_cons (snd_idx (sv 0) snd_int) sna_nil))))
 sns_nil)
theorem ok_parted (T : Tx K mg) : FnOk P w K mg base (L2.CX P w) 2 (He.ga K "parted") T.d_parted P_parted (spI K cv 2 f_parted) :=
  have nd := sc_parted.nd
  fn_I (b := b_parted) (g := f_parted) T.F_parted sc_parted rfl rfl rfl fun cdv A outer s H E hr tk =>
 (sns_cons (sns_ret (snd_call (ok_lowest T) rfl (hr.mono (by decide)) tk rfl T.g_lowest T.F_lowest.kp T.b_lowest (sna_cons (snd_idx (sv 0) snd_int) (sna_cons (snd_mul (snd_idx (sv 0) snd_int) (sv 1)) sna_nil))))
 sns_nil)
theorem ok_is_less (T : Tx K mg) : FnOk P w K mg base (L2.CX P w) 1 (He.ga K "is_less") T.d_is_less P_is_less (spI K cv 2 f_is_less) :=
  have nd := sc_is_less.nd
  fn_I (b := b_is_less) (g := f_is_less) T.F_is_less sc_is_less rfl rfl rfl fun cdv A outer s H E hr tk =>
 (sns_cons (sns_ret (snd_cmp op_lt ops_lt (snd_mul (snd_idx (sv 0) snd_int) (snd_idx (sv 1) snd_int)) (snd_mul (snd_idx (sv 1) snd_int) (snd_idx (sv 0) snd_int)) (nomark _)))
 sns_nil)
theorem ok_lesser (T : Tx K mg) : FnOk P w K mg base (L2.CX P w) 2 (He.ga K "lesser") T.d_lesser P_lesser (spI K cv 2 f_lesser) :=
  have nd := sc_lesser.nd
  fn_I (b := b_lesser) (g := f_lesser) T.F_lesser sc_lesser rfl rfl rfl fun cdv A outer s H E hr tk =>
 (sns_cons (sns_ret (snd_if (snt_val (snd_call (ok_is_less T) rfl (hr.mono (by decide)) tk rfl T.g_is_less T.F_is_less.kp T.b_is_less (sna_cons (sv 1) (sna_cons (sv 0) sna_nil)))) (sv 1) (sv 0)))
 sns_nil)
theorem ok_total (T : Tx K mg) : FnOk P w K mg base (L2.CX P w) 3 (He.ga K "total") T.d_total P_total (spI K cv 1 f_total) :=
  have nd := sc_total.nd
  fn_I (b := b_total) (g := f_total) T.F_total sc_total rfl rfl rfl fun cdv A outer s H E hr tk =>
 (sns_cons (sns_set (i := 1) nd rfl (.inl rfl) (T.c_NOTHING rfl))
 (sns_cons (sns_for PassesOwn.leaving rfl (sni_seq (sv 0)) (sng_name (i := 2) nd rfl (by first | exact .inl rfl | exact .inr rfl))
 (sns_cons (sns_set (i := 1) nd rfl (.inl rfl) (snd_call (ok_plus T) rfl (hr.mono (by decide)) tk rfl T.g_plus T.F_plus.kp T.b_plus (sna_cons (sv 1) (sna_cons (sv 2) sna_nil))))
 sns_nil))
 (sns_cons (sns_ret (sv 1))
 sns_nil)))
theorem ok_are_wants (T : Tx K mg) : FnOk P w K mg base (L2.CX P w) 2 (He.ga K "are_wants") T.d_are_wants P_are_wants (spI K cv 1 f_are_wants) :=
  have nd := sc_are_wants.nd
  fn_I (b := b_are_wants) (g := f_are_wants) T.F_are_wants sc_are_wants rfl rfl rfl fun cdv A outer s H E hr tk =>
 (sns_cons (sns_if (PW.pt (snw_or (snt_not (snt_val (snd_isi (t := Ty.list) rfl T.n_isinstance rfl T.n_list (by decide +kernel) (sv 0)))) (snw_or1 (snt_cmp op_gt ops_gt (snd_len rfl T.n_len (sv 0)) (T.c_MOST_WANTS rfl) (nomark _)))))
 (sns_cons (sns_ret snd_bl)
 sns_nil)
 sns_nil)
 (sns_cons (sns_if (snt_not (snt_val (snd_all rfl rfl T.n_all (snd_lc (own := [("one", 1)]) rfl nd (sni_seq (sv 0)) (blkOk_by (own := [("one", 1)]) (N := N_are_wants) (sc := defScope s_are_wants) (by decide +kernel)) (by decide) (fun _ _ _ _ _ => (sng_name (i := 1) nd rfl (by first | exact .inl rfl | exact .inr rfl))) (fun _ _ _ _ _ => snts_nil) (fun _ _ _ _ _ => (snd_and (snd_isi (t := Ty.tuple) rfl T.n_isinstance rfl T.n_tuple (by decide +kernel) (sv 1)) (snd_one (snd_cmp (op_eqD hr.units) ops_eq (snd_len rfl T.n_len (sv 1)) snd_int (nomark _)))))))))
 (sns_cons (sns_ret snd_bl)
 sns_nil)
 sns_nil)
 (sns_cons (sns_ret (snd_all rfl rfl T.n_all (snd_lc (own := [("heft", 2), ("most", 3)]) rfl nd (sni_seq (sv 0)) (blkOk_by (own := [("heft", 2), ("most", 3)]) (N := N_are_wants) (sc := defScope s_are_wants) (by decide +kernel)) (by decide) (fun _ _ _ _ _ => (sng_tup rfl (sngs_cons (sng_name (i := 2) nd rfl (by first | exact .inl rfl | exact .inr rfl)) (sngs_cons (sng_name (i := 3) nd rfl (by first | exact .inl rfl | exact .inr rfl)) sngs_nil)))) (fun _ _ _ _ _ => snts_nil) (fun _ _ _ _ _ => (snd_and (snd_call (ok_is_whole T) rfl (hr.mono (by decide)) takes0 rfl T.g_is_whole T.F_is_whole.kp T.b_is_whole (sna_cons (sv 2) (sna_cons snd_int (sna_cons (T.c_MOST_HEFT rfl) sna_nil)))) (snd_one (snd_call (ok_is_whole T) rfl (hr.mono (by decide)) takes0 rfl T.g_is_whole T.F_is_whole.kp T.b_is_whole (sna_cons (sv 3) (sna_cons snd_int (sna_cons (T.c_MOST_WANT rfl) sna_nil))))))))))
 sns_nil)))
theorem ok_level_of (T : Tx K mg) : FnOk P w K mg base (L2.CX P w) 4 (He.ga K "level_of") T.d_level_of P_level_of (spI K cv 2 f_level_of) :=
  have nd := sc_level_of.nd
  fn_I (b := b_level_of) (g := f_level_of) T.F_level_of sc_level_of rfl rfl rfl fun cdv A outer s H E hr tk =>
 (sns_cons (sns_if (snt_not (snt_val (snd_call (ok_is_less T) rfl (hr.mono (by decide)) tk rfl T.g_is_less T.F_is_less.kp T.b_is_less (sna_cons (sv 0) (sna_cons (snd_call (ok_total T) rfl (hr.mono (by decide)) tk rfl T.g_total T.F_total.kp T.b_total (sna_cons (snd_lc (own := [("heft", 2), ("most", 3)]) rfl nd (sni_seq (sv 1)) (blkOk_by (own := [("heft", 2), ("most", 3)]) (N := N_level_of) (sc := defScope s_level_of) (by decide +kernel)) (by decide) (fun _ _ _ _ _ => (sng_tup rfl (sngs_cons (sng_name (i := 2) nd rfl (by first | exact .inl rfl | exact .inr rfl)) (sngs_cons (sng_name (i := 3) nd rfl (by first | exact .inl rfl | exact .inr rfl)) sngs_nil)))) (fun _ _ _ _ _ => snts_nil) (fun _ _ _ _ _ => (sv 3))) sna_nil)) sna_nil)))))
 (sns_cons (sns_ret snd_non)
 sns_nil)
 sns_nil)
 (sns_cons (sns_par (i := 4) (j := 5) rfl nd rfl rfl (by decide) rfl rfl (sv 0) (snd_list rfl T.n_list (sv 1)) (by rfl))
 (sns_cons (sns_whl PassesOwn.leaving (snt_cmp (op_neD hr.units) ops_ne (sv 5) (snd_lst sna_nil) (nomark _))
 (sns_cons (sns_set (i := 6) nd rfl (.inr rfl) (snd_call (ok_parted T) rfl (hr.mono (by decide)) tk rfl T.g_parted T.F_parted.kp T.b_parted (sna_cons (sv 4) (sna_cons (snd_sum rfl rfl T.n_sum (snd_lc (own := [("heft", 2), ("most", 3)]) rfl nd (sni_seq (sv 5)) (blkOk_by (own := [("heft", 2), ("most", 3)]) (N := N_level_of) (sc := defScope s_level_of) (by decide +kernel)) (by decide) (fun _ _ _ _ _ => (sng_tup rfl (sngs_cons (sng_name (i := 2) nd rfl (by first | exact .inl rfl | exact .inr rfl)) (sngs_cons (sng_name (i := 3) nd rfl (by first | exact .inl rfl | exact .inr rfl)) sngs_nil)))) (fun _ _ _ _ _ => snts_nil) (fun _ _ _ _ _ => (sv 2)))) sna_nil))))
 (sns_cons (sns_set (i := 8) nd rfl (.inr rfl) (snd_lc (own := [("one", 7)]) rfl nd (sni_seq (sv 5)) (blkOk_by (own := [("one", 7)]) (N := N_level_of) (sc := defScope s_level_of) (by decide +kernel)) (by decide) (fun _ _ _ _ _ => (sng_name (i := 7) nd rfl (by first | exact .inl rfl | exact .inr rfl))) (fun _ _ _ _ _ => (snts_one (snt_val (snd_call (ok_is_less T) rfl (hr.mono (by decide)) takes0 rfl T.g_is_less T.F_is_less.kp T.b_is_less (sna_cons (snd_idx (sv 7) snd_int) (sna_cons (snd_call (ok_times T) rfl (hr.mono (by decide)) takes0 rfl T.g_times T.F_times.kp T.b_times (sna_cons (sv 6) (sna_cons (snd_idx (sv 7) snd_int) sna_nil))) sna_nil)))))) (fun _ _ _ _ _ => (sv 7))))
 (sns_cons (sns_if (snt_cmp (op_eqD hr.units) ops_eq (sv 8) (snd_lst sna_nil) (nomark _))
 (sns_cons (sns_ret (sv 6))
 sns_nil)
 sns_nil)
 (sns_cons (sns_set (i := 4) nd rfl (.inl rfl) (snd_call (ok_minus T) rfl (hr.mono (by decide)) tk rfl T.g_minus T.F_minus.kp T.b_minus (sna_cons (sv 4) (sna_cons (snd_call (ok_total T) rfl (hr.mono (by decide)) tk rfl T.g_total T.F_total.kp T.b_total (sna_cons (snd_lc (own := [("heft", 2), ("most", 3)]) rfl nd (sni_seq (sv 8)) (blkOk_by (own := [("heft", 2), ("most", 3)]) (N := N_level_of) (sc := defScope s_level_of) (by decide +kernel)) (by decide) (fun _ _ _ _ _ => (sng_tup rfl (sngs_cons (sng_name (i := 2) nd rfl (by first | exact .inl rfl | exact .inr rfl)) (sngs_cons (sng_name (i := 3) nd rfl (by first | exact .inl rfl | exact .inr rfl)) sngs_nil)))) (fun _ _ _ _ _ => snts_nil) (fun _ _ _ _ _ => (sv 3))) sna_nil)) sna_nil))))
 (sns_cons (sns_setLc (i := 5) (own := [("one", 7)]) rfl nd rfl rfl (sw_true rfl rfl rfl (by decide +kernel)) (sni_seq (sv 5)) (blkOk_by (own := [("one", 7)]) (N := N_level_of) (sc := defScope s_level_of) (by decide +kernel)) (by decide) (fun _ _ _ _ _ => (sng_name (i := 7) nd rfl (by first | exact .inl rfl | exact .inr rfl))) (fun _ _ _ _ _ => (snts_one (snt_cmp (op_notInD hr.unitsD) ops_notIn (sv 7) (sv 8) rfl))) (fun _ _ _ _ _ => (sv 7)))
 sns_nil))))))
 (sns_cons (sns_ret snd_non)
 sns_nil))))
theorem ok_parts_of (T : Tx K mg) : FnOk P w K mg base (L2.CX P w) 5 (He.ga K "parts_of") T.d_parts_of P_parts_of (spI K cv 2 f_parts_of) :=
  have nd := sc_parts_of.nd
  fn_I (b := b_parts_of) (g := f_parts_of) T.F_parts_of sc_parts_of rfl rfl rfl fun cdv A outer s H E hr tk =>
 (sns_cons (sns_set (i := 2) nd rfl (.inr rfl) (snd_call (ok_level_of T) rfl (hr.mono (by decide)) tk rfl T.g_level_of T.F_level_of.kp T.b_level_of (sna_cons (sv 0) (sna_cons (sv 1) sna_nil))))
 (sns_cons (sns_ret (snd_lc (own := [("heft", 3), ("most", 4)]) rfl nd (sni_seq (sv 1)) (blkOk_by (own := [("heft", 3), ("most", 4)]) (N := N_parts_of) (sc := defScope s_parts_of) (by decide +kernel)) (by decide) (fun _ _ _ _ _ => (sng_tup rfl (sngs_cons (sng_name (i := 3) nd rfl (by first | exact .inl rfl | exact .inr rfl)) (sngs_cons (sng_name (i := 4) nd rfl (by first | exact .inl rfl | exact .inr rfl)) sngs_nil)))) (fun _ _ _ _ _ => snts_nil) (fun _ _ _ _ _ => (snd_if (snt_isN (sv 2)) (sv 4) (snd_call (ok_lesser T) rfl (hr.mono (by decide)) takes0 rfl T.g_lesser T.F_lesser.kp T.b_lesser (sna_cons (sv 4) (sna_cons (snd_call (ok_times T) rfl (hr.mono (by decide)) takes0 rfl T.g_times T.F_times.kp T.b_times (sna_cons (sv 2) (sna_cons (sv 3) sna_nil))) sna_nil)))))))
 sns_nil))
theorem ok_fractions_of (T : Tx K mg) : FnOk P w K mg base (L2.CX P w) 1 (He.ga K "fractions_of") T.d_fractions_of P_fractions_of (spI K cv 1 f_fractions_of) :=
  have nd := sc_fractions_of.nd
  fn_I (b := b_fractions_of) (g := f_fractions_of) T.F_fractions_of sc_fractions_of rfl rfl rfl fun cdv A outer s H E hr tk =>
 (sns_cons (sns_ret (snd_lc (own := [("heft", 1), ("most", 2)]) rfl nd (sni_seq (sv 0)) (blkOk_by (own := [("heft", 1), ("most", 2)]) (N := N_fractions_of) (sc := defScope s_fractions_of) (by decide +kernel)) (by decide) (fun _ _ _ _ _ => (sng_tup rfl (sngs_cons (sng_name (i := 1) nd rfl (by first | exact .inl rfl | exact .inr rfl)) (sngs_cons (sng_name (i := 2) nd rfl (by first | exact .inl rfl | exact .inr rfl)) sngs_nil)))) (fun _ _ _ _ _ => snts_nil) (fun _ _ _ _ _ => (snd_tup (sna_cons (sv 1) (sna_cons (snd_tup (sna_cons (sv 2) (sna_cons snd_int sna_nil))) sna_nil))))))
 sns_nil)
theorem ok_look_all (T : Tx K mg) : FnOk P w K mg base (L2.CX P w) 3 (He.ga K "look_all") T.d_look_all P_look_all (spI K cv 2 f_look_all) :=
  have nd := sc_look_all.nd
  fn_I (b := b_look_all) (g := f_look_all) T.F_look_all sc_look_all rfl rfl rfl fun cdv A outer s H E hr tk =>
 (sns_cons (sns_ex (snd_call (ok_look_whole T) rfl (hr.mono (by decide)) tk rfl T.g_look_whole T.F_look_whole.kp T.b_look_whole (sna_cons (sv 0) (sna_cons snd_int (sna_cons (T.c_MOST_AMOUNT rfl) sna_nil)))))
 (sns_cons (sns_if (snt_not (snt_val (snd_call (ok_are_wants T) rfl (hr.mono (by decide)) tk rfl T.g_are_wants T.F_are_wants.kp T.b_are_wants (sna_cons (sv 1) sna_nil))))
 (sns_cons sns_no
 sns_nil)
 sns_nil)
 sns_nil))
theorem ok_shares (T : Tx K mg) : FnOk P w K mg base (L2.CX P w) 6 (He.ga K "shares") T.d_shares P_shares (spI K cv 2 f_shares) :=
  have nd := sc_shares.nd
  fn_I (b := b_shares) (g := f_shares) T.F_shares sc_shares rfl rfl rfl fun cdv A outer s H E hr tk =>
 (sns_cons (sns_ex (snd_call (ok_look_all T) rfl (hr.mono (by decide)) tk rfl T.g_look_all T.F_look_all.kp T.b_look_all (sna_cons (sv 0) (sna_cons (sv 1) sna_nil))))
 (sns_cons (sns_ret (snd_call (ok_parts_of T) rfl (hr.mono (by decide)) tk rfl T.g_parts_of T.F_parts_of.kp T.b_parts_of (sna_cons (snd_tup (sna_cons (sv 0) (sna_cons snd_int sna_nil))) (sna_cons (snd_call (ok_fractions_of T) rfl (hr.mono (by decide)) tk rfl T.g_fractions_of T.F_fractions_of.kp T.b_fractions_of (sna_cons (sv 1) sna_nil)) sna_nil))))
 sns_nil))
theorem ok_level (T : Tx K mg) : FnOk P w K mg base (L2.CX P w) 5 (He.ga K "level") T.d_level P_level (spI K cv 2 f_level) :=
  have nd := sc_level.nd
  fn_I (b := b_level) (g := f_level) T.F_level sc_level rfl rfl rfl fun cdv A outer s H E hr tk =>
 (sns_cons (sns_ex (snd_call (ok_look_all T) rfl (hr.mono (by decide)) tk rfl T.g_look_all T.F_look_all.kp T.b_look_all (sna_cons (sv 0) (sna_cons (sv 1) sna_nil))))
 (sns_cons (sns_ret (snd_call (ok_level_of T) rfl (hr.mono (by decide)) tk rfl T.g_level_of T.F_level_of.kp T.b_level_of (sna_cons (snd_tup (sna_cons (sv 0) (sna_cons snd_int sna_nil))) (sna_cons (snd_call (ok_fractions_of T) rfl (hr.mono (by decide)) tk rfl T.g_fractions_of T.F_fractions_of.kp T.b_fractions_of (sna_cons (sv 1) sna_nil)) sna_nil))))
 sns_nil))
theorem ok__law_pick (T : Tx K mg) : FnOk P w K mg base (L2.CX P w) 1 (He.ga K "_law_pick") T.d__law_pick P__law_pick (spI K cv 3 f__law_pick) :=
  have nd := sc__law_pick.nd
  fn_I (b := b__law_pick) (g := f__law_pick) T.F__law_pick sc__law_pick rfl rfl rfl fun cdv A outer s H E hr tk =>
 (sns_cons (sns_set (i := 3) nd rfl (.inl rfl) (snd_if (snt_cmp (op_neD hr.units) ops_ne (sv 0) (snd_lst sna_nil) (nomark _)) (snd_idx (sv 0) (snd_mod (sv 1) (snd_len rfl T.n_len (sv 0)))) snd_int))
 (sns_cons (sns_par (i := 4) (j := 5) rfl nd rfl rfl (by decide) rfl rfl (snd_fdv (sv 3) (snd_pow snd_int snd_int)) (snd_fdv (sv 1) (snd_max rfl rfl T.n_max (snd_len rfl T.n_len (sv 0)) snd_int)) (by rfl))
 (sns_cons (sns_whl PassesOwn.leaving (PW.pt (snw_and (snt_cmp op_gt ops_gt (sv 4) snd_int (nomark _)) (snw_and1 (snt_cmp op_gt ops_gt (sv 5) snd_int (nomark _)))))
 (sns_cons (sns_par (i := 4) (j := 5) rfl nd rfl rfl (by decide) rfl rfl (snd_fdv (sv 4) snd_int) (snd_sub (sv 5) snd_int) (by rfl))
 sns_nil))
 (sns_cons (sns_if (snt_cmp op_gt ops_gt (sv 4) snd_int (nomark _))
 (sns_cons (sns_ret (snd_mod (snd_mod (sv 4) snd_int) (sv 2)))
 sns_nil)
 sns_nil)
 (sns_cons (sns_set (i := 6) nd rfl (.inl rfl) (snd_mod (snd_mul (snd_add (snd_mul (sv 3) snd_int) (snd_mul snd_int (snd_add (sv 1) snd_int))) snd_int) snd_int))
 (sns_cons (sns_ret (snd_mod (snd_mod (snd_add (snd_mul (sv 6) (sv 6)) (snd_fdv (sv 6) snd_int)) snd_int) (sv 2)))
 sns_nil))))))
theorem ok__law_wants (T : Tx K mg) : FnOk P w K mg base (L2.CX P w) 2 (He.ga K "_law_wants") T.d__law_wants P__law_wants (spI K cv 2 f__law_wants) :=
  have nd := sc__law_wants.nd
  fn_I (b := b__law_wants) (g := f__law_wants) T.F__law_wants sc__law_wants rfl rfl rfl fun cdv A outer s H E hr tk =>
 (sns_cons (sns_set (i := 2) nd rfl (.inl rfl) (snd_mkl sna_nil))
 (sns_cons (sns_for PassesOwn.leaving rfl (sni_rng rfl T.n_range (snd_call (ok__law_pick T) rfl (hr.mono (by decide)) tk rfl T.g__law_pick T.F__law_pick.kp T.b__law_pick (sna_cons (sv 0) (sna_cons (sv 1) (sna_cons snd_int sna_nil))))) (sng_name (i := 3) nd rfl (by first | exact .inl rfl | exact .inr rfl))
 (sns_cons (sns_set (i := 4) nd rfl (.inl rfl) (snd_idx (snd_lst (sna_cons snd_int (sna_cons snd_int (sna_cons snd_int (sna_cons snd_int (sna_cons snd_int (sna_cons snd_int sna_nil))))))) (snd_call (ok__law_pick T) rfl (hr.mono (by decide)) tk rfl T.g__law_pick T.F__law_pick.kp T.b__law_pick (sna_cons (sv 0) (sna_cons (snd_add (snd_add (sv 1) snd_int) (sv 3)) (sna_cons snd_int sna_nil))))))
 (sns_cons (sns_ex (snd_app (sv 2) (snd_tup (sna_cons (sv 4) (sna_cons (snd_idx (snd_lst (sna_cons snd_int (sna_cons snd_int (sna_cons snd_int (sna_cons snd_int (sna_cons snd_int (sna_cons snd_int sna_nil))))))) (snd_call (ok__law_pick T) rfl (hr.mono (by decide)) tk rfl T.g__law_pick T.F__law_pick.kp T.b__law_pick (sna_cons (sv 0) (sna_cons (snd_add (snd_add (sv 1) snd_int) (sv 3)) (sna_cons snd_int sna_nil))))) sna_nil)))))
 sns_nil)))
 (sns_cons (sns_retf (i := 2) rfl (by first | exact .inl rfl | exact .inr (.inl rfl)))
 sns_nil)))
theorem ok__law_less (T : Tx K mg) : FnOk P w K mg base (L2.CX P w) 1 (He.ga K "_law_less") T.d__law_less P__law_less (spI K cv 2 f__law_less) :=
  have nd := sc__law_less.nd
  fn_I (b := b__law_less) (g := f__law_less) T.F__law_less sc__law_less rfl rfl rfl fun cdv A outer s H E hr tk =>
 (sns_cons (sns_ret (snd_cmp op_lt ops_lt (snd_mul (snd_idx (sv 0) snd_int) (snd_idx (sv 1) snd_int)) (snd_mul (snd_idx (sv 1) snd_int) (snd_idx (sv 0) snd_int)) (nomark _)))
 sns_nil)
theorem ok__law_same (T : Tx K mg) : FnOk P w K mg base (L2.CX P w) 1 (He.ga K "_law_same") T.d__law_same P__law_same (spI K cv 2 f__law_same) :=
  have nd := sc__law_same.nd
  fn_I (b := b__law_same) (g := f__law_same) T.F__law_same sc__law_same rfl rfl rfl fun cdv A outer s H E hr tk =>
 (sns_cons (sns_ret (snd_cmp (op_eqD hr.units) ops_eq (snd_mul (snd_idx (sv 0) snd_int) (snd_idx (sv 1) snd_int)) (snd_mul (snd_idx (sv 1) snd_int) (snd_idx (sv 0) snd_int)) (nomark _)))
 sns_nil)
theorem ok__law_sum (T : Tx K mg) : FnOk P w K mg base (L2.CX P w) 1 (He.ga K "_law_sum") T.d__law_sum P__law_sum (spI K cv 1 f__law_sum) :=
  have nd := sc__law_sum.nd
  fn_I (b := b__law_sum) (g := f__law_sum) T.F__law_sum sc__law_sum rfl rfl rfl fun cdv A outer s H E hr tk =>
 (sns_cons (sns_asg (snd_tup (sna_cons snd_int (sna_cons snd_int sna_nil))) (sng_tup rfl (sngs_cons (sng_name (i := 1) nd rfl (by first | exact .inl rfl | exact .inr rfl)) (sngs_cons (sng_name (i := 2) nd rfl (by first | exact .inl rfl | exact .inr rfl)) sngs_nil))))
 (sns_cons (sns_for PassesOwn.leaving rfl (sni_seq (sv 0)) (sng_tup rfl (sngs_cons (sng_name (i := 3) nd rfl (by first | exact .inl rfl | exact .inr rfl)) (sngs_cons (sng_name (i := 4) nd rfl (by first | exact .inl rfl | exact .inr rfl)) sngs_nil)))
 (sns_cons (sns_par (i := 1) (j := 2) rfl nd rfl rfl (by decide) rfl rfl (snd_add (snd_mul (sv 1) (sv 4)) (snd_mul (sv 3) (sv 2))) (snd_mul (sv 2) (sv 4)) (by rfl))
 sns_nil))
 (sns_cons (sns_whl PassesOwn.leaving (PW.pt (snw_and (snt_cmp (op_eqD hr.units) ops_eq (snd_mod (sv 2) snd_int) snd_int (nomark _)) (snw_and (snt_cmp (op_eqD hr.units) ops_eq (snd_mod (sv 1) snd_int) snd_int (nomark _)) (snw_and1 (snt_cmp op_gt ops_gt (sv 2) snd_int (nomark _))))))
 (sns_cons (sns_par (i := 1) (j := 2) rfl nd rfl rfl (by decide) rfl rfl (snd_fdv (sv 1) snd_int) (snd_fdv (sv 2) snd_int) (by rfl))
 sns_nil))
 (sns_cons (sns_ret (snd_tup (sna_cons (sv 1) (sna_cons (sv 2) sna_nil))))
 sns_nil))))
theorem ok_law (T : Tx K mg) : FnOk P w K mg base (L2.CX P w) 7 (He.ga K "law") T.d_law P_law (spI K cv 1 f_law) :=
  have nd := sc_law.nd
  fn_I (b := b_law) (g := f_law) T.F_law sc_law rfl rfl rfl fun cdv A outer s H E hr tk =>
 (sns_cons (sns_set (i := 3) nd rfl (.inr rfl) (snd_add (snd_lc (own := [("_law_weight", 1), ("_law_most", 2)]) rfl nd (sni_seq (snd_sl (snd_call (ok__law_wants T) rfl (hr.mono (by decide)) tk rfl T.g__law_wants T.F__law_wants.kp T.b__law_wants (sna_cons (sv 0) (sna_cons snd_int sna_nil))) snp_no (snp_at snd_int))) (blkOk_by (own := [("_law_weight", 1), ("_law_most", 2)]) (N := N_law) (sc := defScope s_law) (by decide +kernel)) (by decide) (fun _ _ _ _ _ => (sng_tup rfl (sngs_cons (sng_name (i := 1) nd rfl (by first | exact .inl rfl | exact .inr rfl)) (sngs_cons (sng_name (i := 2) nd rfl (by first | exact .inl rfl | exact .inr rfl)) sngs_nil)))) (fun _ _ _ _ _ => (snts_one (snt_cmp op_lt ops_lt (sv 2) snd_int (nomark _)))) (fun _ _ _ _ _ => (snd_tup (sna_cons (sv 1) (sna_cons (sv 2) sna_nil))))) (snd_lst (sna_cons (snd_tup (sna_cons snd_int (sna_cons snd_int sna_nil))) sna_nil))))
 (sns_cons (sns_set (i := 4) nd rfl (.inl rfl) (snd_call (ok__law_pick T) rfl (hr.mono (by decide)) tk rfl T.g__law_pick T.F__law_pick.kp T.b__law_pick (sna_cons (sv 0) (sna_cons snd_int (sna_cons snd_int sna_nil)))))
 (sns_cons (sns_asg (snd_tup (sna_cons (snd_call (ok_shares T) rfl (hr.mono (by decide)) tk rfl T.g_shares T.F_shares.kp T.b_shares (sna_cons (sv 4) (sna_cons (sv 3) sna_nil))) (sna_cons (snd_call (ok_level T) rfl (hr.mono (by decide)) tk rfl T.g_level T.F_level.kp T.b_level (sna_cons (sv 4) (sna_cons (sv 3) sna_nil))) sna_nil))) (sng_tup rfl (sngs_cons (sng_name (i := 5) nd rfl (by first | exact .inl rfl | exact .inr rfl)) (sngs_cons (sng_name (i := 6) nd rfl (by first | exact .inl rfl | exact .inr rfl)) sngs_nil))))
 (sns_cons (sns_if (snt_isN (sv 6))
 (sns_cons (sns_ret (snd_cmp (op_eqD hr.units) ops_eq (sv 5) (snd_lc (own := [("_law_weight", 1), ("_law_most", 2)]) rfl nd (sni_seq (sv 3)) (blkOk_by (own := [("_law_weight", 1), ("_law_most", 2)]) (N := N_law) (sc := defScope s_law) (by decide +kernel)) (by decide) (fun _ _ _ _ _ => (sng_tup rfl (sngs_cons (sng_name (i := 1) nd rfl (by first | exact .inl rfl | exact .inr rfl)) (sngs_cons (sng_name (i := 2) nd rfl (by first | exact .inl rfl | exact .inr rfl)) sngs_nil)))) (fun _ _ _ _ _ => snts_nil) (fun _ _ _ _ _ => (snd_tup (sna_cons (sv 2) (sna_cons snd_int sna_nil))))) (nomark _)))
 sns_nil)
 sns_nil)
 (sns_cons (sns_for PassesOwn.leaving rfl (sni_rng rfl T.n_range snd_int) (sng_name (i := 7) nd rfl (by first | exact .inl rfl | exact .inr rfl))
 (sns_cons (sns_asg (snd_tup (sna_cons (sv 4) (sna_cons (snd_newMul (snd_lst (sna_cons snd_int sna_nil)) (snd_len rfl T.n_len (sv 3))) sna_nil))) (sng_tup rfl (sngs_cons (sng_name (i := 8) nd rfl (by first | exact .inl rfl | exact .inr rfl)) (sngs_cons (sng_name (i := 9) nd rfl (by first | exact .inl rfl | exact .inr rfl)) sngs_nil))))
 (sns_cons (sns_set (i := 10) nd rfl (.inl rfl) (snd_newRng rfl rfl T.n_list rfl T.n_range (snd_len rfl T.n_len (sv 3))))
 (sns_cons (sns_for PassesOwn.leaving rfl (sni_rng rfl T.n_range (snd_len rfl T.n_len (sv 3))) (sng_name (i := 11) nd rfl (by first | exact .inl rfl | exact .inr rfl))
 (sns_cons (sns_set (i := 12) nd rfl (.inl rfl) (snd_popAt (sv 10) (snd_call (ok__law_pick T) rfl (hr.mono (by decide)) tk rfl T.g__law_pick T.F__law_pick.kp T.b__law_pick (sna_cons (sv 0) (sna_cons (snd_add (snd_add snd_int (snd_mul snd_int (sv 7))) (sv 11)) (sna_cons (snd_lenR rfl T.n_len (sv 10)) sna_nil))))))
 (sns_cons (sns_sub (snd_min3 rfl rfl T.n_min (sv 8) (snd_idx (snd_idx (sv 3) (sv 12)) snd_int) (snd_call (ok__law_pick T) rfl (hr.mono (by decide)) tk rfl T.g__law_pick T.F__law_pick.kp T.b__law_pick (sna_cons (sv 0) (sna_cons (snd_add (snd_add snd_int (snd_mul snd_int (sv 7))) (sv 11)) (sna_cons snd_int sna_nil))))) (sv 9) (sv 12))
 (sns_cons (sns_set (i := 8) nd rfl (.inl rfl) (snd_sub (sv 8) (snd_idxR (sv 9) (sv 12))))
 sns_nil))))
 (sns_cons (sns_for PassesOwn.leaving rfl (sni_rng rfl T.n_range (snd_len rfl T.n_len (sv 3))) (sng_name (i := 12) nd rfl (by first | exact .inl rfl | exact .inr rfl))
 (sns_cons (sns_set (i := 13) nd rfl (.inl rfl) (snd_min rfl rfl T.n_min (sv 8) (snd_sub (snd_idx (snd_idx (sv 3) (sv 12)) snd_int) (snd_idxR (sv 9) (sv 12)))))
 (sns_cons (sns_sub (snd_add (snd_idxR (sv 9) (sv 12)) (sv 13)) (sv 9) (sv 12))
 (sns_cons (sns_set (i := 8) nd rfl (.inl rfl) (snd_sub (sv 8) (sv 13)))
 sns_nil))))
 (sns_cons (sns_if (snt_cmp op_gt ops_gt (sv 8) snd_int (nomark _))
 (sns_cons (sns_ret snd_bl)
 sns_nil)
 sns_nil)
 (sns_frz (i := 9)
 (sns_cons (sns_setLc (i := 15) (own := [("_law_much", 14), ("_law_weight", 1), ("_law_most", 2)]) rfl nd rfl rfl (sw_true rfl rfl rfl (by decide +kernel)) (sni_zip rfl T.n_zip (sv 3) (sv 9)) (blkOk_by (own := [("_law_much", 14), ("_law_weight", 1), ("_law_most", 2)]) (N := N_law) (sc := defScope s_law) (by decide +kernel)) (by decide) (fun _ _ _ _ _ => (sng_tup rfl (sngs_cons (sng_tup rfl (sngs_cons (sng_name (i := 1) nd rfl (by first | exact .inl rfl | exact .inr rfl)) (sngs_cons (sng_name (i := 2) nd rfl (by first | exact .inl rfl | exact .inr rfl)) sngs_nil))) (sngs_cons (sng_name (i := 14) nd rfl (by first | exact .inl rfl | exact .inr rfl)) sngs_nil)))) (fun _ _ _ _ _ => (snts_one (snt_cmp op_lt ops_lt (sv 14) (sv 2) (nomark _)))) (fun _ _ _ _ _ => (snd_tup (sna_cons (sv 14) (sna_cons (sv 1) sna_nil)))))
 (sns_cons (sns_if (PW.pt (snw_or (snt_cmp (op_eqD hr.units) ops_eq (sv 15) (snd_lst sna_nil) (nomark _)) (snw_or1 (snt_val (snd_all rfl rfl T.n_all (snd_lc (own := [("_law_pair", 16)]) rfl nd (sni_seq (sv 15)) (blkOk_by (own := [("_law_pair", 16)]) (N := N_law) (sc := defScope s_law) (by decide +kernel)) (by decide) (fun _ _ _ _ _ => (sng_name (i := 16) nd rfl (by first | exact .inl rfl | exact .inr rfl))) (fun _ _ _ _ _ => snts_nil) (fun _ _ _ _ _ => (snd_call (ok__law_less T) rfl (hr.mono (by decide)) takes0 rfl T.g__law_less T.F__law_less.kp T.b__law_less (sna_cons (sv 6) (sna_cons (sv 16) sna_nil))))))))))
 (sns_cons (sns_ret snd_bl)
 sns_nil)
 sns_nil)
 (sns_cons (sns_setLc (i := 17) (own := [("_law_k", 11), ("_law_much", 14)]) rfl nd rfl rfl (sw_true rfl rfl rfl (by decide +kernel)) (sni_enm rfl T.n_enumerate (sv 9)) (blkOk_by (own := [("_law_k", 11), ("_law_much", 14)]) (N := N_law) (sc := defScope s_law) (by decide +kernel)) (by decide) (fun _ _ _ _ _ => (sng_tup rfl (sngs_cons (sng_name (i := 11) nd rfl (by first | exact .inl rfl | exact .inr rfl)) (sngs_cons (sng_name (i := 14) nd rfl (by first | exact .inl rfl | exact .inr rfl)) sngs_nil)))) (fun _ _ _ _ _ => (snts_one (snt_val (snd_call (ok__law_less T) rfl (hr.mono (by decide)) takes0 rfl T.g__law_less T.F__law_less.kp T.b__law_less (sna_cons (snd_idx (sv 5) (sv 11)) (sna_cons (snd_tup (sna_cons (sv 14) (sna_cons snd_int sna_nil))) sna_nil)))))) (fun _ _ _ _ _ => (sv 11)))
 (sns_cons (sns_setLc (i := 18) (own := [("_law_k", 11), ("_law_much", 14)]) rfl nd rfl rfl (sw_true rfl rfl rfl (by decide +kernel)) (sni_enm rfl T.n_enumerate (sv 9)) (blkOk_by (own := [("_law_k", 11), ("_law_much", 14)]) (N := N_law) (sc := defScope s_law) (by decide +kernel)) (by decide) (fun _ _ _ _ _ => (sng_tup rfl (sngs_cons (sng_name (i := 11) nd rfl (by first | exact .inl rfl | exact .inr rfl)) (sngs_cons (sng_name (i := 14) nd rfl (by first | exact .inl rfl | exact .inr rfl)) sngs_nil)))) (fun _ _ _ _ _ => (snts_one (snt_val (snd_call (ok__law_less T) rfl (hr.mono (by decide)) takes0 rfl T.g__law_less T.F__law_less.kp T.b__law_less (sna_cons (snd_tup (sna_cons (sv 14) (sna_cons snd_int sna_nil))) (sna_cons (snd_idx (sv 5) (sv 11)) sna_nil)))))) (fun _ _ _ _ _ => (sv 11)))
 (sns_cons (sns_if (snt_cmp (op_neD hr.units) ops_ne (snd_cmp (op_eqD hr.units) ops_eq (sv 17) (snd_lst sna_nil) (nomark _)) (snd_cmp (op_eqD hr.units) ops_eq (sv 18) (snd_lst sna_nil) (nomark _)) (nomark _))
 (sns_cons (sns_ret snd_bl)
 sns_nil)
 sns_nil)
 (sns_cons (sns_for PassesOwn.leaving rfl (sni_seq (sv 17)) (sng_name (i := 11) nd rfl (by first | exact .inl rfl | exact .inr rfl))
 (sns_cons (sns_if (snt_cmp (op_eqD hr.units) ops_eq (snd_lc (own := [("_law_j", 19)]) rfl nd (sni_seq (sv 18)) (blkOk_by (own := [("_law_j", 19)]) (N := N_law) (sc := defScope s_law) (by decide +kernel)) (by decide) (fun _ _ _ _ _ => (sng_name (i := 19) nd rfl (by first | exact .inl rfl | exact .inr rfl))) (fun _ _ _ _ _ => (snts_one (snt_val (snd_call (ok__law_less T) rfl (hr.mono (by decide)) takes0 rfl T.g__law_less T.F__law_less.kp T.b__law_less (sna_cons (snd_tup (sna_cons (snd_mul (snd_idx (sv 9) (sv 19)) (snd_idx (snd_idx (sv 3) (sv 11)) snd_int)) (sna_cons (snd_idx (snd_idx (sv 3) (sv 19)) snd_int) sna_nil))) (sna_cons (snd_idx (sv 5) (sv 11)) sna_nil)))))) (fun _ _ _ _ _ => (sv 19))) (snd_lst sna_nil) (nomark _))
 (sns_cons (sns_ret snd_bl)
 sns_nil)
 sns_nil)
 sns_nil))
 sns_nil)))))))))))))
 (sns_cons (sns_ret (snd_call (ok__law_same T) rfl (hr.mono (by decide)) tk rfl T.g__law_same T.F__law_same.kp T.b__law_same (sna_cons (snd_call (ok__law_sum T) rfl (hr.mono (by decide)) tk rfl T.g__law_sum T.F__law_sum.kp T.b__law_sum (sna_cons (sv 5) sna_nil)) (sna_cons (snd_tup (sna_cons (sv 4) (sna_cons snd_int sna_nil))) sna_nil))))
 sns_nil))))))
end
/-! ### the head -/
def fa : List He.Fa := [.free "all", .free "bool", .free "enumerate", .free "int", .free "isinstance", .free "len", .free "list", .free "max", .free "min", .free "range", .free "sum", .free "tuple", .free "zip", .glo "is_whole", .glo "look_whole", .glo "lowest", .glo "plus", .glo "minus", .glo "times", .glo "parted", .glo "is_less", .glo "lesser", .glo "total", .glo "are_wants", .glo "level_of", .glo "parts_of", .glo "fractions_of", .glo "look_all", .glo "shares", .glo "level", .glo "_law_pick", .glo "_law_wants", .glo "_law_less", .glo "_law_same", .glo "_law_sum", .glo "law", .glo "NOTHING", .int "MOST_AMOUNT" (9999 : Int), .int "MOST_HEFT" (100 : Int), .int "MOST_WANT" (999 : Int), .int "MOST_WANTS" (12 : Int)]
def D_is_whole : He.DefD := ⟨("is_whole", none), "is_whole", "is_whole", defArgs s_is_whole, defBody s_is_whole, defScope s_is_whole, [], []⟩
def D_look_whole : He.DefD := ⟨("look_whole", none), "look_whole", "look_whole", defArgs s_look_whole, defBody s_look_whole, defScope s_look_whole, [], []⟩
def D_lowest : He.DefD := ⟨("lowest", none), "lowest", "lowest", defArgs s_lowest, defBody s_lowest, defScope s_lowest, [], []⟩
def D_plus : He.DefD := ⟨("plus", none), "plus", "plus", defArgs s_plus, defBody s_plus, defScope s_plus, [], []⟩
def D_minus : He.DefD := ⟨("minus", none), "minus", "minus", defArgs s_minus, defBody s_minus, defScope s_minus, [], []⟩
def D_times : He.DefD := ⟨("times", none), "times", "times", defArgs s_times, defBody s_times, defScope s_times, [], []⟩
def D_parted : He.DefD := ⟨("parted", none), "parted", "parted", defArgs s_parted, defBody s_parted, defScope s_parted, [], []⟩
def D_is_less : He.DefD := ⟨("is_less", none), "is_less", "is_less", defArgs s_is_less, defBody s_is_less, defScope s_is_less, [], []⟩
def D_lesser : He.DefD := ⟨("lesser", none), "lesser", "lesser", defArgs s_lesser, defBody s_lesser, defScope s_lesser, [], []⟩
def D_total : He.DefD := ⟨("total", none), "total", "total", defArgs s_total, defBody s_total, defScope s_total, [], []⟩
def D_are_wants : He.DefD := ⟨("are_wants", none), "are_wants", "are_wants", defArgs s_are_wants, defBody s_are_wants, defScope s_are_wants, [], []⟩
def D_level_of : He.DefD := ⟨("level_of", none), "level_of", "level_of", defArgs s_level_of, defBody s_level_of, defScope s_level_of, [], []⟩
def D_parts_of : He.DefD := ⟨("parts_of", none), "parts_of", "parts_of", defArgs s_parts_of, defBody s_parts_of, defScope s_parts_of, [], []⟩
def D_fractions_of : He.DefD := ⟨("fractions_of", none), "fractions_of", "fractions_of", defArgs s_fractions_of, defBody s_fractions_of, defScope s_fractions_of, [], []⟩
def D_look_all : He.DefD := ⟨("look_all", none), "look_all", "look_all", defArgs s_look_all, defBody s_look_all, defScope s_look_all, [], []⟩
def D_shares : He.DefD := ⟨("shares", none), "shares", "shares", defArgs s_shares, defBody s_shares, defScope s_shares, [], []⟩
def D_level : He.DefD := ⟨("level", none), "level", "level", defArgs s_level, defBody s_level, defScope s_level, [], []⟩
def D__law_pick : He.DefD := ⟨("_law_pick", none), "_law_pick", "_law_pick", defArgs s__law_pick, defBody s__law_pick, defScope s__law_pick, [], []⟩
def D__law_wants : He.DefD := ⟨("_law_wants", none), "_law_wants", "_law_wants", defArgs s__law_wants, defBody s__law_wants, defScope s__law_wants, [], []⟩
def D__law_less : He.DefD := ⟨("_law_less", none), "_law_less", "_law_less", defArgs s__law_less, defBody s__law_less, defScope s__law_less, [], []⟩
def D__law_same : He.DefD := ⟨("_law_same", none), "_law_same", "_law_same", defArgs s__law_same, defBody s__law_same, defScope s__law_same, [], []⟩
def D__law_sum : He.DefD := ⟨("_law_sum", none), "_law_sum", "_law_sum", defArgs s__law_sum, defBody s__law_sum, defScope s__law_sum, [], []⟩
def D_law : He.DefD := ⟨("law", none), "law", "law", defArgs s_law, defBody s_law, defScope s_law, [], []⟩
def fns : List He.DefD := [D_is_whole, D_look_whole, D_lowest, D_plus, D_minus, D_times, D_parted, D_is_less, D_lesser, D_total, D_are_wants, D_level_of, D_parts_of, D_fractions_of, D_look_all, D_shares, D_level, D__law_pick, D__law_wants, D__law_less, D__law_same, D__law_sum, D_law]
def mb (K : PySem.W.Frag) : Bool := He.tupB K "NOTHING" [.int (0 : Int), .int (1 : Int)]
theorem tx {K : PySem.W.Frag} {h : Heap} {mg : Str → Option Value} (KX : K.In h) (G : h.Ns mainGlobals mg) (c : SaysI fa fns mb K) : Nonempty (Tx K mg) := by
  have m1 := c.more
  obtain ⟨d_is_whole, F_is_whole⟩ := c.def_ 0 (d := D_is_whole) rfl
  obtain ⟨d_look_whole, F_look_whole⟩ := c.def_ 1 (d := D_look_whole) rfl
  obtain ⟨d_lowest, F_lowest⟩ := c.def_ 2 (d := D_lowest) rfl
  obtain ⟨d_plus, F_plus⟩ := c.def_ 3 (d := D_plus) rfl
  obtain ⟨d_minus, F_minus⟩ := c.def_ 4 (d := D_minus) rfl
  obtain ⟨d_times, F_times⟩ := c.def_ 5 (d := D_times) rfl
  obtain ⟨d_parted, F_parted⟩ := c.def_ 6 (d := D_parted) rfl
  obtain ⟨d_is_less, F_is_less⟩ := c.def_ 7 (d := D_is_less) rfl
  obtain ⟨d_lesser, F_lesser⟩ := c.def_ 8 (d := D_lesser) rfl
  obtain ⟨d_total, F_total⟩ := c.def_ 9 (d := D_total) rfl
  obtain ⟨d_are_wants, F_are_wants⟩ := c.def_ 10 (d := D_are_wants) rfl
  obtain ⟨d_level_of, F_level_of⟩ := c.def_ 11 (d := D_level_of) rfl
  obtain ⟨d_parts_of, F_parts_of⟩ := c.def_ 12 (d := D_parts_of) rfl
  obtain ⟨d_fractions_of, F_fractions_of⟩ := c.def_ 13 (d := D_fractions_of) rfl
  obtain ⟨d_look_all, F_look_all⟩ := c.def_ 14 (d := D_look_all) rfl
  obtain ⟨d_shares, F_shares⟩ := c.def_ 15 (d := D_shares) rfl
  obtain ⟨d_level, F_level⟩ := c.def_ 16 (d := D_level) rfl
  obtain ⟨d__law_pick, F__law_pick⟩ := c.def_ 17 (d := D__law_pick) rfl
  obtain ⟨d__law_wants, F__law_wants⟩ := c.def_ 18 (d := D__law_wants) rfl
  obtain ⟨d__law_less, F__law_less⟩ := c.def_ 19 (d := D__law_less) rfl
  obtain ⟨d__law_same, F__law_same⟩ := c.def_ 20 (d := D__law_same) rfl
  obtain ⟨d__law_sum, F__law_sum⟩ := c.def_ 21 (d := D__law_sum) rfl
  obtain ⟨d_law, F_law⟩ := c.def_ 22 (d := D_law) rfl
  exact ⟨{
    n_all := He.free_ok KX G (c.fact 0 (f := .free "all") rfl)
    n_bool := He.free_ok KX G (c.fact 1 (f := .free "bool") rfl)
    n_enumerate := He.free_ok KX G (c.fact 2 (f := .free "enumerate") rfl)
    n_int := He.free_ok KX G (c.fact 3 (f := .free "int") rfl)
    n_isinstance := He.free_ok KX G (c.fact 4 (f := .free "isinstance") rfl)
    n_len := He.free_ok KX G (c.fact 5 (f := .free "len") rfl)
    n_list := He.free_ok KX G (c.fact 6 (f := .free "list") rfl)
    n_max := He.free_ok KX G (c.fact 7 (f := .free "max") rfl)
    n_min := He.free_ok KX G (c.fact 8 (f := .free "min") rfl)
    n_range := He.free_ok KX G (c.fact 9 (f := .free "range") rfl)
    n_sum := He.free_ok KX G (c.fact 10 (f := .free "sum") rfl)
    n_tuple := He.free_ok KX G (c.fact 11 (f := .free "tuple") rfl)
    n_zip := He.free_ok KX G (c.fact 12 (f := .free "zip") rfl)
    c_MOST_AMOUNT := cst_int KX G (c.fact 37 (f := .int "MOST_AMOUNT" (9999 : Int)) rfl)
    c_MOST_HEFT := cst_int KX G (c.fact 38 (f := .int "MOST_HEFT" (100 : Int)) rfl)
    c_MOST_WANT := cst_int KX G (c.fact 39 (f := .int "MOST_WANT" (999 : Int)) rfl)
    c_MOST_WANTS := cst_int KX G (c.fact 40 (f := .int "MOST_WANTS" (12 : Int)) rfl)
    c_NOTHING := cst_tup (dvs := [.int (0 : Int), .int (1 : Int)]) KX G (c.fact 36 (f := .glo "NOTHING") rfl) m1 (fun _ _ _ => .cons (.int (0 : Int)) (.cons (.int (1 : Int)) (.nil)))
    d_is_whole := d_is_whole
    F_is_whole := F_is_whole
    g_is_whole := He.glo_ok KX G (c.fact 13 (f := .glo "is_whole") rfl)
    b_is_whole := F_is_whole.bindsN (ps := P_is_whole) fun _ _ _ _ _ _ us hl => match us, hl with | [_, _, _], _ => rfl
    d_look_whole := d_look_whole
    F_look_whole := F_look_whole
    g_look_whole := He.glo_ok KX G (c.fact 14 (f := .glo "look_whole") rfl)
    b_look_whole := F_look_whole.bindsN (ps := P_look_whole) fun _ _ _ _ _ _ us hl => match us, hl with | [_, _, _], _ => rfl
    d_lowest := d_lowest
    F_lowest := F_lowest
    g_lowest := He.glo_ok KX G (c.fact 15 (f := .glo "lowest") rfl)
    b_lowest := F_lowest.bindsN (ps := P_lowest) fun _ _ _ _ _ _ us hl => match us, hl with | [_, _], _ => rfl
    d_plus := d_plus
    F_plus := F_plus
    g_plus := He.glo_ok KX G (c.fact 16 (f := .glo "plus") rfl)
    b_plus := F_plus.bindsN (ps := P_plus) fun _ _ _ _ _ _ us hl => match us, hl with | [_, _], _ => rfl
    d_minus := d_minus
    F_minus := F_minus
    g_minus := He.glo_ok KX G (c.fact 17 (f := .glo "minus") rfl)
    b_minus := F_minus.bindsN (ps := P_minus) fun _ _ _ _ _ _ us hl => match us, hl with | [_, _], _ => rfl
    d_times := d_times
    F_times := F_times
    g_times := He.glo_ok KX G (c.fact 18 (f := .glo "times") rfl)
    b_times := F_times.bindsN (ps := P_times) fun _ _ _ _ _ _ us hl => match us, hl with | [_, _], _ => rfl
    d_parted := d_parted
    F_parted := F_parted
    g_parted := He.glo_ok KX G (c.fact 19 (f := .glo "parted") rfl)
    b_parted := F_parted.bindsN (ps := P_parted) fun _ _ _ _ _ _ us hl => match us, hl with | [_, _], _ => rfl
    d_is_less := d_is_less
    F_is_less := F_is_less
    g_is_less := He.glo_ok KX G (c.fact 20 (f := .glo "is_less") rfl)
    b_is_less := F_is_less.bindsN (ps := P_is_less) fun _ _ _ _ _ _ us hl => match us, hl with | [_, _], _ => rfl
    d_lesser := d_lesser
    F_lesser := F_lesser
    g_lesser := He.glo_ok KX G (c.fact 21 (f := .glo "lesser") rfl)
    b_lesser := F_lesser.bindsN (ps := P_lesser) fun _ _ _ _ _ _ us hl => match us, hl with | [_, _], _ => rfl
    d_total := d_total
    F_total := F_total
    g_total := He.glo_ok KX G (c.fact 22 (f := .glo "total") rfl)
    b_total := F_total.bindsN (ps := P_total) fun _ _ _ _ _ _ us hl => match us, hl with | [_], _ => rfl
    d_are_wants := d_are_wants
    F_are_wants := F_are_wants
    g_are_wants := He.glo_ok KX G (c.fact 23 (f := .glo "are_wants") rfl)
    b_are_wants := F_are_wants.bindsN (ps := P_are_wants) fun _ _ _ _ _ _ us hl => match us, hl with | [_], _ => rfl
    d_level_of := d_level_of
    F_level_of := F_level_of
    g_level_of := He.glo_ok KX G (c.fact 24 (f := .glo "level_of") rfl)
    b_level_of := F_level_of.bindsN (ps := P_level_of) fun _ _ _ _ _ _ us hl => match us, hl with | [_, _], _ => rfl
    d_parts_of := d_parts_of
    F_parts_of := F_parts_of
    g_parts_of := He.glo_ok KX G (c.fact 25 (f := .glo "parts_of") rfl)
    b_parts_of := F_parts_of.bindsN (ps := P_parts_of) fun _ _ _ _ _ _ us hl => match us, hl with | [_, _], _ => rfl
    d_fractions_of := d_fractions_of
    F_fractions_of := F_fractions_of
    g_fractions_of := He.glo_ok KX G (c.fact 26 (f := .glo "fractions_of") rfl)
    b_fractions_of := F_fractions_of.bindsN (ps := P_fractions_of) fun _ _ _ _ _ _ us hl => match us, hl with | [_], _ => rfl
    d_look_all := d_look_all
    F_look_all := F_look_all
    g_look_all := He.glo_ok KX G (c.fact 27 (f := .glo "look_all") rfl)
    b_look_all := F_look_all.bindsN (ps := P_look_all) fun _ _ _ _ _ _ us hl => match us, hl with | [_, _], _ => rfl
    d_shares := d_shares
    F_shares := F_shares
    g_shares := He.glo_ok KX G (c.fact 28 (f := .glo "shares") rfl)
    b_shares := F_shares.bindsN (ps := P_shares) fun _ _ _ _ _ _ us hl => match us, hl with | [_, _], _ => rfl
    d_level := d_level
    F_level := F_level
    g_level := He.glo_ok KX G (c.fact 29 (f := .glo "level") rfl)
    b_level := F_level.bindsN (ps := P_level) fun _ _ _ _ _ _ us hl => match us, hl with | [_, _], _ => rfl
    d__law_pick := d__law_pick
    F__law_pick := F__law_pick
    g__law_pick := He.glo_ok KX G (c.fact 30 (f := .glo "_law_pick") rfl)
    b__law_pick := F__law_pick.bindsN (ps := P__law_pick) fun _ _ _ _ _ _ us hl => match us, hl with | [_, _, _], _ => rfl
    d__law_wants := d__law_wants
    F__law_wants := F__law_wants
    g__law_wants := He.glo_ok KX G (c.fact 31 (f := .glo "_law_wants") rfl)
    b__law_wants := F__law_wants.bindsN (ps := P__law_wants) fun _ _ _ _ _ _ us hl => match us, hl with | [_, _], _ => rfl
    d__law_less := d__law_less
    F__law_less := F__law_less
    g__law_less := He.glo_ok KX G (c.fact 32 (f := .glo "_law_less") rfl)
    b__law_less := F__law_less.bindsN (ps := P__law_less) fun _ _ _ _ _ _ us hl => match us, hl with | [_, _], _ => rfl
    d__law_same := d__law_same
    F__law_same := F__law_same
    g__law_same := He.glo_ok KX G (c.fact 33 (f := .glo "_law_same") rfl)
    b__law_same := F__law_same.bindsN (ps := P__law_same) fun _ _ _ _ _ _ us hl => match us, hl with | [_, _], _ => rfl
    d__law_sum := d__law_sum
    F__law_sum := F__law_sum
    g__law_sum := He.glo_ok KX G (c.fact 34 (f := .glo "_law_sum") rfl)
    b__law_sum := F__law_sum.bindsN (ps := P__law_sum) fun _ _ _ _ _ _ us hl => match us, hl with | [_], _ => rfl
    d_law := d_law
    F_law := F_law
    g_law := He.glo_ok KX G (c.fact 35 (f := .glo "law") rfl)
    b_law := F_law.bindsN (ps := P_law) fun _ _ _ _ _ _ us hl => match us, hl with | [_], _ => rfl
    }⟩
def loose0 : List Str := ["CellError", "NoNumber", "NoWants", "is_whole", "look_whole", "lowest", "plus", "minus", "times", "parted", "is_less", "lesser", "total", "are_wants", "level_of", "parts_of", "fractions_of", "look_all", "shares", "level", "_law_pick", "_law_wants", "_law_less", "_law_same", "_law_sum", "NOTHING", "MOST_WANTS", "MOST_HEFT", "MOST_WANT", "MOST_AMOUNT"]
def loose : List Str := loose0
abbrev R : PySem.W.OpenRow := PySem.W.OpenLaw.row PySem.Challenge.rw_cellyard_k09_whole_least_served
abbrev hk : PySem.W.Hook := hookI 5 fa fns mb
theorem run (w : World) : HandSHeadRun.RunEq R (PySem.W.view R.prog [34]) hk (obI 5 fa fns mb) 4000 loose w := by
  intro os
  kernel_rfl
theorem facts {P : Program} {w : World} {K : PySem.W.Frag} {h : Heap} {mg : Str → Option Value} {f : Addr} (X : K.In h) (G : h.Ns mainGlobals mg) (hfa : mg ("law" : Str) = some (.ref f)) (c : SaysI fa fns mb K) :
    ∃ fd : FuncData, (∀ (s : Shared) (v : Value), BindsTo s fd ⟨[v], []⟩ [("_law_script", v)]) ∧ ∀ base : Heap, K.In base → base.Ns mainGlobals mg → FnOk P w K mg base CX0 7 f fd P_law (fun vs H Q _ => spI K (fun _ => .none) 1 f_law vs H Q E0) := by
  obtain ⟨T⟩ := tx X G c
  have e := hfa.symm.trans T.g_law
  cases e
  have b := FunD.bindsA (ps := P_law) T.F_law fun _ _ _ _ _ _ us hl => match us, hl with | [_], _ => rfl
  exact ⟨T.d_law, fun s v => b s [v] rfl, fun base _ _ => calm0 (ok_law T)⟩
theorem holds (yes : ∀ ns : List Int, ns.length ≤ 63 → ∃ h', f_law [.scr (ns.map D.int)] [] = .ok (.bl true) h') : PySem.Challenge.rw_cellyard_k09_whole_least_served.Holds := by
  w_on; o_law
  refine HandSHeadRun.head_any (r := PySem.W.OpenLaw.row PySem.Challenge.rw_cellyard_k09_whole_least_served) (q := PySem.W.view (PySem.W.OpenLaw.row PySem.Challenge.rw_cellyard_k09_whole_least_served).prog [34]) (H := hk) (ob := obI 5 fa fns mb) (M := 4000) (loose := loose) (d := HandSHeadRun.topDef (PySem.W.OpenLaw.row PySem.Challenge.rw_cellyard_k09_whole_least_served).prog 34) (kwd := []) obI_eq
    (by kernel_rfl) (fun s => by kernel_rfl) run (by kernel_rfl) (by kernel_rfl) (by kernel_rfl) (by rfl) (by first | assumption | decide +kernel) (by decide +kernel) ⟨rfl, rfl, rfl, rfl, rfl, by decide +kernel⟩ ?hw ?hc
  case hw => w_witness2
  case hc =>
    refine L2.walk_ofE (l := PySem.Challenge.rw_cellyard_k09_whole_least_served) (n := 63) (k := 7) (x := "_law_script") (CX := L2.CX0) rfl (by decide) (by kernel_rfl) ⟨rfl, by decide, by decide⟩ ?F (fun _ _ _ _ z => z)
    intro w mg fa h Y G hmg0
    obtain ⟨K, KX, c⟩ := Y
    have hmg : mg ("law" : PySem.Str) = some (.ref fa) := by
      have e : (HandSHeadRun.topDef (PySem.W.OpenLaw.row PySem.Challenge.rw_cellyard_k09_whole_least_served).prog 34).name = ("law" : PySem.Str) := by kernel_rfl
      rw [← e]
      exact hmg0
    obtain ⟨fd, hb, hF⟩ := facts (P := (PySem.Challenge.rw_cellyard_k09_whole_least_served).prog) (w := w) KX G hmg c
    exact ⟨K, fd, fun vs H Q _ => spI K (fun _ => .none) 1 f_law vs H Q E0, KX, hb, fun H a ns hl ho hS => law_yes ho hS (yes ns hl), hF⟩
end K09

namespace IP
open PySem (Str PyData)
/-! ### evaluation by rewriting -/
section
variable {α β : Type} {a : α} {h : Hp} {c : Nat} {σ : Lo} {d x y : D} {f : α → Hp → R β} {g : α → Hp → R Fl} {k : S}
@[simp] theorem bnd_ok : (R.ok a h).bnd f = f a h := (rfl)
@[simp] theorem stm_ok : (R.ok a h).stm σ g = g a h := (rfl)
@[simp] theorem calm_ok : (R.ok a h).calm = R.ok a h := (rfl)
@[simp] theorem opt_some {o : α → R β} : opt (some a) o = o a := (rfl)
@[simp] theorem thn_nxt : (R.ok (Fl.nxt σ) h).thn k = k σ h := (rfl)
@[simp] theorem thn_ret : (R.ok (Fl.ret d) h).thn k = .ok (.ret d) h := (rfl)
@[simp] theorem thn_brk : (R.ok (Fl.brk σ) h).thn k = .ok (.brk σ) h := (rfl)
@[simp] theorem thn_cnt : (R.ok (Fl.cnt σ) h).thn k = .ok (.cnt σ) h := (rfl)
@[simp] theorem thn_exc : (R.ok (Fl.exc c σ) h).thn k = .ok (.exc c σ) h := (rfl)
@[simp] theorem trn_nxt : (R.ok (Fl.nxt σ) h).trn k = k σ h := (rfl)
@[simp] theorem trn_ret : (R.ok (Fl.ret d) h).trn k = .ok (.ret d) h := (rfl)
@[simp] theorem trn_brk : (R.ok (Fl.brk σ) h).trn k = .ok (.nxt σ) h := (rfl)
@[simp] theorem trn_cnt : (R.ok (Fl.cnt σ) h).trn k = k σ h := (rfl)
@[simp] theorem trn_exc : (R.ok (Fl.exc c σ) h).trn k = .ok (.exc c σ) h := (rfl)
@[simp] theorem fnEnd_ret : fnEnd (.ok (.ret d) h) = .ok d h := (rfl)
@[simp] theorem fnEnd_nxt : fnEnd (.ok (.nxt σ) h) = .ok .non h := (rfl)
@[simp] theorem fnEnd_exc : fnEnd (.ok (.exc c σ) h) = .exc c h := (rfl)
end
section
variable {σ : Lo} {h : Hp} {i j k n : Nat} {e ea eb ec : E} {ta tb : T} {aa : A} {s r : S} {g : G} {f : Fn} {d : D}
theorem eLoc_ok {d : D} (q : σ[i]? = some (some d)) : eLoc i σ h = .ok d h := by unfold eLoc; rw [q]
@[simp] theorem eLoc_0 {x : D} {l : Lo} : eLoc 0 (some x :: l) h = .ok x h := (rfl)
@[simp] theorem eLoc_s {x : Option D} {l : Lo} {n : Nat} : eLoc (n + 1) (x :: l) h = eLoc n l h := (rfl)
@[simp] theorem eCst_ok {d : D} : eCst d σ h = .ok d h := (rfl)
@[simp] theorem two_ok {f : D → D → Hp → R D} : two f ea eb σ h = (ea σ h).bnd fun x h => (eb σ h).bnd fun y h => f x y h := (rfl)
@[simp] theorem one_ok {f : D → Hp → R D} : one f ea σ h = (ea σ h).bnd fun x h => f x h := (rfl)
@[simp] theorem fAdd_int {i j : Int} : fAdd (.int i) (.int j) h = .ok (.int (i + j)) h := (rfl)
@[simp] theorem fSub_int {i j : Int} : fSub (.int i) (.int j) h = .ok (.int (i - j)) h := (rfl)
theorem fMul_int {i j : Int} (q : mulOk i j = true) : fMul (.int i) (.int j) h = .ok (.int (i * j)) h := by
  show (if mulOk i j then R.ok (D.int (i * j)) h else R.no) = _
  rw [if_pos q]
theorem fFdv_int {i j : Int} (q : 0 < j) (b : bits j < 9000) : fFdv (.int i) (.int j) h = .ok (.int (i / j)) h := by
  show (if (decide (0 < j) && decide (bits j < 9000)) = true then R.ok (D.int (i / j)) h else R.no) = _
  rw [if_pos (by rw [decide_eq_true q, decide_eq_true b]; rfl)]
theorem fMod_int {i j : Int} (q : 0 < j) : fMod (.int i) (.int j) h = .ok (.int (i % j)) h := by
  show (if 0 < j then R.ok (D.int (i % j)) h else R.no) = _
  rw [if_pos q]
@[simp] theorem fCmp_int {p : Int → Int → Bool} {i j : Int} : fCmp p (.int i) (.int j) h = .ok (.bl (p i j)) h := (rfl)
@[simp] theorem fIsN_non : fIsN .non h = .ok (.bl true) h := (rfl)
@[simp] theorem fIsN_tup {xs : List D} : fIsN (.tup xs) h = .ok (.bl false) h := (rfl)
@[simp] theorem fNotN_non : fNotN .non h = .ok (.bl false) h := (rfl)
@[simp] theorem fNotN_tup {xs : List D} : fNotN (.tup xs) h = .ok (.bl true) h := (rfl)
@[simp] theorem fIdx_tup0 {x : D} {xs : List D} : fIdx (.tup (x :: xs)) (.int 0) h = .ok x h := (rfl)
@[simp] theorem fIdx_tup1 {x y : D} {xs : List D} : fIdx (.tup (x :: y :: xs)) (.int 1) h = .ok y h := (rfl)
@[simp] theorem tVal_ok : tVal e σ h = (e σ h).bnd fun x h => match x with
  | .bl b => .ok b h
  | _ => .no := (rfl)
@[simp] theorem tAnd_ok : tAnd ta tb σ h = (ta σ h).bnd fun x h => if x then tb σ h else .ok false h := (rfl)
@[simp] theorem tOr_ok : tOr ta tb σ h = (ta σ h).bnd fun x h => if x then .ok true h else tb σ h := (rfl)
@[simp] theorem tNot_ok : tNot ta σ h = (ta σ h).bnd fun x h => .ok (!x) h := (rfl)
@[simp] theorem eAnd_ok : eAnd ea eb σ h = (ea σ h).bnd fun x h => match x with
  | .bl true => eb σ h
  | .bl false => .ok (.bl false) h
  | _ => .no := (rfl)
@[simp] theorem eOr_ok : eOr ea eb σ h = (ea σ h).bnd fun x h => match x with
  | .bl false => eb σ h
  | .bl true => .ok (.bl true) h
  | _ => .no := (rfl)
@[simp] theorem eNot_ok : eNot ea σ h = (ea σ h).bnd fun x h => match x with
  | .bl b => .ok (.bl (!b)) h
  | _ => .no := (rfl)
@[simp] theorem eIf_ok : eIf ta ea eb σ h = (ta σ h).bnd fun x h => if x then ea σ h else eb σ h := (rfl)
@[simp] theorem eChain_ok {f g : D → D → Hp → R D} : eChain f g ea eb ec σ h = (ea σ h).bnd fun x h => (eb σ h).bnd fun y h => (f x y h).bnd fun z h => match z with
  | .bl true => (ec σ h).bnd fun w h => g y w h
  | .bl false => .ok (.bl false) h
  | _ => .no := (rfl)
@[simp] theorem aNil_ok : aNil σ h = .ok [] h := (rfl)
@[simp] theorem aCons_ok : aCons e aa σ h = (e σ h).bnd fun x h => (aa σ h).bnd fun xs h => .ok (x :: xs) h := (rfl)
@[simp] theorem eTup_ok : eTup aa σ h = (aa σ h).bnd fun xs h => if xs.length ≤ 100000 then .ok (.tup xs) h else .no := (rfl)
@[simp] theorem eLst_ok : eLst aa σ h = (aa σ h).bnd fun xs h => if xs.length ≤ 100000 then .ok (.lst xs) h else .no := (rfl)
@[simp] theorem eMkl_ok : eMkl aa σ h = (aa σ h).bnd fun xs h => if xs.length ≤ 100000 then .ok (.ref h.length) (h ++ [.lst xs]) else .no := (rfl)
@[simp] theorem eCall_ok : eCall n f aa σ h = (aa σ h).bnd fun xs h => if xs.length = n then f xs h else .no := (rfl)
@[simp] theorem fLen_tup {xs : List D} : fLen (.tup xs) h = .ok (.int xs.length) h := (rfl)
@[simp] theorem fLen_lst {xs : List D} : fLen (.lst xs) h = .ok (.int xs.length) h := (rfl)
@[simp] theorem fLen_scr {xs : List D} : fLen (.scr xs) h = .ok (.int xs.length) h := (rfl)
@[simp] theorem fList_lst {xs : List D} : fList (.lst xs) h = .ok (.lst xs) h := (rfl)
@[simp] theorem fMax_int {i j : Int} : fMax (.int i) (.int j) h = .ok (.int (if j > i then j else i)) h := (rfl)
@[simp] theorem fMin_int {i j : Int} : fMin (.int i) (.int j) h = .ok (.int (if j < i then j else i)) h := (rfl)
@[simp] theorem fIs_int {t : Ty} {i : Int} : fIs t (.int i) h = .ok (.bl (isTy t (.int i))) h := (rfl)
@[simp] theorem fIs_tup {t : Ty} {xs : List D} : fIs t (.tup xs) h = .ok (.bl (isTy t (.tup xs))) h := (rfl)
@[simp] theorem fIs_lst {t : Ty} {xs : List D} : fIs t (.lst xs) h = .ok (.bl (isTy t (.lst xs))) h := (rfl)
@[simp] theorem isTy_ii {i : Int} : isTy .int (.int i) = true := (rfl)
@[simp] theorem isTy_bi {i : Int} : isTy .bool (.int i) = false := (rfl)
@[simp] theorem isTy_tt {xs : List D} : isTy .tuple (.tup xs) = true := (rfl)
@[simp] theorem isTy_ll {xs : List D} : isTy .list (.lst xs) = true := (rfl)
@[simp] theorem gLoc_ok : gLoc i d σ h = .ok (σ.set i (some d)) h := (rfl)
@[simp] theorem gNil_ok : gNil [] σ h = .ok σ h := (rfl)
@[simp] theorem gCons_ok {r : List D → Lo → Hp → R Lo} {ds : List D} : gCons g r (d :: ds) σ h = (g d σ h).bnd fun σ h => r ds σ h := (rfl)
@[simp] theorem gTup_ok {r : List D → Lo → Hp → R Lo} {ds : List D} : gTup n r (.tup ds) σ h = if ds.length = n then r ds σ h else .no := (rfl)
@[simp] theorem sPass_ok : sPass σ h = .ok (.nxt σ) h := (rfl)
@[simp] theorem sAsg_ok : sAsg g e σ h = (e σ h).stm σ fun d h => (g d σ h).calm.stm σ fun σ h => .ok (.nxt σ) h := (rfl)
@[simp] theorem sPar_ok : sPar i j ea eb σ h = (ea σ h).stm σ fun x h => (eb σ h).stm σ fun y h => .ok (.nxt ((σ.set i (some x)).set j (some y))) h := (rfl)
@[simp] theorem sPar3_ok : sPar3 i j k ea eb ec σ h = (ea σ h).stm σ fun x h => (eb σ h).stm σ fun y h => (ec σ h).stm σ fun z h => .ok (.nxt (((σ.set i (some x)).set j (some y)).set k (some z))) h := (rfl)
@[simp] theorem sEx_ok : sEx e σ h = (e σ h).stm σ fun _ h => .ok (.nxt σ) h := (rfl)
@[simp] theorem sRet_ok : sRet e σ h = (e σ h).stm σ fun d h => .ok (.ret d) h := (rfl)
@[simp] theorem sIf_ok : sIf ta s r σ h = (ta σ h).stm σ fun x h => if x then s σ h else r σ h := (rfl)
@[simp] theorem bNil_ok : bNil σ h = .ok (.nxt σ) h := (rfl)
@[simp] theorem bCons_ok : bCons s r σ h = (s σ h).thn r := (rfl)
theorem sWhl_succ : sWhl (n + 1) ta s σ h = (ta σ h).stm σ fun x h => if x then (s σ h).trn (sWhl n ta s) else .ok (.nxt σ) h := (rfl)
@[simp] theorem forGo_nil : forGo g s [] σ h = .ok (.nxt σ) h := (rfl)
theorem forGo_cons {x : D} {xs : List D} : forGo g s (x :: xs) σ h = (g x σ h).calm.stm σ fun σ h => (s σ h).trn (forGo g s xs) := (rfl)
@[simp] theorem sFor_ok : sFor g aa s σ h = (aa σ h).stm σ fun xs h => forGo g s xs σ h := (rfl)
@[simp] theorem mkFn_ok {np ns : Nat} {ds : List D} : mkFn np ns s ds h = if ds.length = np then fnEnd (s (entry ns ds) h) else .no := (rfl)
@[simp] theorem iSeq_ok : iSeq e σ h = (e σ h).bnd fun d h => opt (seqOf d) fun xs => .ok xs h := (rfl)
@[simp] theorem seqOf_lst {xs : List D} : seqOf (.lst xs) = some xs := (rfl)
@[simp] theorem seqOf_tup {xs : List D} : seqOf (.tup xs) = some xs := (rfl)
@[simp] theorem iZip_lst : iZip ea eb σ h = (ea σ h).bnd fun d h => (eb σ h).bnd fun e h => match d, e with
  | .lst xs, .lst ys => .ok (zipD xs ys) h
  | _, _ => .no := (rfl)
theorem entry_of {ns : Nat} {ds : List D} : entry ns ds = ds.map some ++ List.replicate (ns - ds.length) none := (rfl)
/-- a comprehension, turn by turn -/
theorem lcGo_map {α : Type} {σ : Lo} {h : Hp} {g : G} {t : T} {e : E} {u : α → D} {p : α → Bool} {v : α → D} : ∀ (xs : List α) (acc : List D), (∀ x ∈ xs, lcTurn g t e σ (u x) h = .ok (if p x then some (v x) else none) h) → acc.length + xs.length ≤ 100000 →
    lcGo g t e σ (xs.map u) acc h = .ok (acc ++ (xs.filter p).map v) h
  | [], acc, _, _ => by simp [lcGo]
  | x :: xs, acc, H, L => by
    have H1 := H x (List.mem_cons_self ..)
    show (lcTurn g t e σ (u x) h).bnd (lcThen (lcGo g t e σ (xs.map u)) acc) = _
    rw [H1, bnd_ok]
    have L' : acc.length + (xs.length + 1) ≤ 100000 := L
    by_cases c : p x = true
    · rw [if_pos c]
      show (if acc.length < 100000 then lcGo g t e σ (xs.map u) (acc ++ [v x]) h else R.no) = _
      rw [if_pos (by omega), lcGo_map xs _ (fun y hy => H y (List.mem_cons_of_mem _ hy)) (by simp; omega)]
      simp [c]
    · rw [if_neg c]
      show lcGo g t e σ (xs.map u) acc h = _
      rw [lcGo_map xs _ (fun y hy => H y (List.mem_cons_of_mem _ hy)) (by omega)]
      simp [c]
theorem eLc_map {α : Type} {vs : List Nat} {σ : Lo} {h h1 : Hp} {g : G} {i : A} {t : T} {e : E} {u : α → D} {p : α → Bool} {v : α → D} {xs : List α} (hi : i σ h = .ok (xs.map u) h1) (H : ∀ x ∈ xs, lcTurn g t e (wipe σ vs) (u x) h1 = .ok (if p x then some (v x) else none) h1) (L : xs.length ≤ 100000) :
    eLc vs g i t e σ h = .ok (.lst ((xs.filter p).map v)) h1 := by
  show (i σ h).bnd _ = _
  rw [hi, bnd_ok, lcGo_map xs [] H (by simpa using L)]
  simp
theorem eLc_all {α : Type} {vs : List Nat} {σ : Lo} {h h1 : Hp} {g : G} {i : A} {t : T} {e : E} {u v : α → D} {xs : List α} (hi : i σ h = .ok (xs.map u) h1) (H : ∀ x ∈ xs, lcTurn g t e (wipe σ vs) (u x) h1 = .ok (some (v x)) h1) (L : xs.length ≤ 100000) :
    eLc vs g i t e σ h = .ok (.lst (xs.map v)) h1 := by
  rw [eLc_map (p := fun _ => true) (v := v) hi (fun x hx => by rw [H x hx]; rfl) L]
  rw [List.filter_eq_self.mpr (fun _ _ => rfl)]
@[simp] theorem tYes_ok : tYes σ h = .ok true h := (rfl)
@[simp] theorem wipe_nil : wipe σ [] = σ := (rfl)
@[simp] theorem wipe_cons {v : Nat} {vs : List Nat} : wipe σ (v :: vs) = (wipe σ vs).set v none := (rfl)
/-- a loop, item by item, by what is carried -/
theorem forGo_fold {α β : Type} {g : G} {s : S} {h : Hp} (st : β → Lo → Prop) (u : α → D) (f : β → α → β) : ∀ (xs : List α) (b : β) (σ : Lo), st b σ → (∀ b σ, st b σ → ∀ x ∈ xs, ∃ σ', ((g (u x) σ h).calm.stm σ fun σ h => s σ h) = .ok (.nxt σ') h ∧ st (f b x) σ') →
    ∃ σ', forGo g s (xs.map u) σ h = .ok (.nxt σ') h ∧ st (xs.foldl f b) σ'
  | [], b, σ, hb, _ => ⟨σ, rfl, hb⟩
  | x :: xs, b, σ, hb, H => by
    obtain ⟨σ1, e1, s1⟩ := H b σ hb x (List.mem_cons_self ..)
    obtain ⟨σ2, e2, s2⟩ := forGo_fold st u f xs (f b x) σ1 s1 fun b σ hb y hy => H b σ hb y (List.mem_cons_of_mem _ hy)
    refine ⟨σ2, ?_, s2⟩
    show forGo g s (u x :: xs.map u) σ h = _
    rw [forGo_cons]
    cases q : (g (u x) σ h).calm with
    | ok σ0 h0 =>
      rw [q] at e1
      have e1' : s σ0 h0 = .ok (.nxt σ1) h := e1
      show (s σ0 h0).trn _ = _
      rw [e1']
      exact e2
    | exc c h0 => rw [q] at e1; cases e1
    | no => rw [q] at e1; cases e1
end
/-! ### data of ints: equality -/
mutual
def iT : D → Bool
  | .int _ => true
  | .tup xs => iTs xs
  | .lst xs => iTs xs
  | _ => false
def iTs : List D → Bool
  | [] => true
  | x :: xs => iT x && iTs xs
end
mutual
theorem iT_lay : ∀ d : D, iT d = true → (toP d).canLay0 = true
  | .int _, _ => rfl
  | .tup xs, q => by simpa [toP, PyData.canLay0] using iTs_lay xs (by simpa [iT] using q)
  | .lst xs, q => by simpa [toP, PyData.canLay0] using iTs_lay xs (by simpa [iT] using q)
  | .non, q => by simp [iT] at q
  | .bl _, q => by simp [iT] at q
  | .str _, q => by simp [iT] at q
  | .ref _, q => by simp [iT] at q
  | .scr _, q => by simp [iT] at q
theorem iTs_lay : ∀ ds : List D, iTs ds = true → PyData.canLayAll0 (toPs ds) = true
  | [], _ => rfl
  | d :: ds, q => by
    have q' : iT d = true ∧ iTs ds = true := by simpa [iTs] using q
    simp [toPs, PyData.canLayAll0, iT_lay d q'.1, iTs_lay ds q'.2]
end
mutual
theorem eqv_iT : ∀ x y : D, iT x = true → iT y = true → (PyData.eqv (toP x) (toP y) = true ↔ x = y)
  | .int i, y, _, qy => by cases y <;> simp_all [iT, toP, PyData.eqv]
  | .tup xs, y, qx, qy => by
    cases y <;> simp_all [iT, toP, PyData.eqv]
    exact eqvs_iT xs _ qx qy
  | .lst xs, y, qx, qy => by
    cases y <;> simp_all [iT, toP, PyData.eqv]
    exact eqvs_iT xs _ qx qy
  | .non, _, q, _ => by simp [iT] at q
  | .bl _, _, q, _ => by simp [iT] at q
  | .str _, _, q, _ => by simp [iT] at q
  | .ref _, _, q, _ => by simp [iT] at q
  | .scr _, _, q, _ => by simp [iT] at q
theorem eqvs_iT : ∀ xs ys : List D, iTs xs = true → iTs ys = true → (PyData.eqvAll (toPs xs) (toPs ys) = true ↔ xs = ys)
  | [], ys, _, _ => by cases ys <;> simp [toPs, PyData.eqvAll]
  | x :: xs, [], _, _ => by simp [toPs, PyData.eqvAll]
  | x :: xs, y :: ys, qx, qy => by
    have qx' : iT x = true ∧ iTs xs = true := by simpa [iTs] using qx
    have qy' : iT y = true ∧ iTs ys = true := by simpa [iTs] using qy
    simp only [toPs, PyData.eqvAll, Bool.and_eq_true, eqv_iT x y qx'.1 qy'.1, eqvs_iT xs ys qx'.2 qy'.2, List.cons.injEq]
end
mutual
def iK : Nat → D → Bool
  | _, .int _ => true
  | k + 1, .tup xs => iKs k xs
  | k + 1, .lst xs => iKs k xs
  | _, _ => false
def iKs : Nat → List D → Bool
  | _, [] => true
  | k, x :: xs => iK k x && iKs k xs
end
mutual
theorem iK_iT : ∀ (d : D) (k : Nat), iK k d = true → iT d = true ∧ (toP d).depth ≤ k
  | .int _, k, _ => ⟨rfl, Nat.zero_le _⟩
  | .tup xs, 0, q => by simp [iK] at q
  | .lst xs, 0, q => by simp [iK] at q
  | .tup xs, k + 1, q => by
    have z := iKs_iT xs k (by simpa [iK] using q)
    exact ⟨by simpa [iT] using z.1, by simpa [toP, PyData.depth] using z.2⟩
  | .lst xs, k + 1, q => by
    have z := iKs_iT xs k (by simpa [iK] using q)
    exact ⟨by simpa [iT] using z.1, by simpa [toP, PyData.depth] using z.2⟩
  | .non, k, q => by cases k <;> simp [iK] at q
  | .bl _, k, q => by cases k <;> simp [iK] at q
  | .str _, k, q => by cases k <;> simp [iK] at q
  | .ref _, k, q => by cases k <;> simp [iK] at q
  | .scr _, k, q => by cases k <;> simp [iK] at q
theorem iKs_iT : ∀ (ds : List D) (k : Nat), iKs k ds = true → iTs ds = true ∧ PyData.depthAll (toPs ds) ≤ k
  | [], k, _ => ⟨rfl, Nat.zero_le _⟩
  | d :: ds, k, q => by
    have q' : iK k d = true ∧ iKs k ds = true := by simpa [iKs] using q
    have a := iK_iT d k q'.1
    have b := iKs_iT ds k q'.2
    exact ⟨by simp [iTs, a.1, b.1], by simp only [toPs, PyData.depthAll]; omega⟩
end
theorem plain_iK {d : D} {k : Nat} (q : iK k d = true) (hk : k ≤ 64) : plain d = true := by
  have z := iK_iT d k q
  unfold plain
  rw [iT_lay d z.1, decide_eq_true (Nat.le_trans z.2 hk)]
  rfl
theorem iKs_all {ds : List D} {k : Nat} : iKs k ds = true ↔ ∀ d ∈ ds, iK k d = true := by
  induction ds with
  | nil => simp [iKs]
  | cons d ds ih => simp [iKs, ih]
open Classical in
theorem eqD_iK {x y : D} {k : Nat} (qx : iK k x = true) (qy : iK k y = true) (hk : k ≤ 64) : eqD x y = some (decide (x = y)) := by
  unfold eqD
  rw [plain_iK qx hk, plain_iK qy hk]
  have e := eqv_iT x y (iK_iT x k qx).1 (iK_iT y k qy).1
  by_cases c : x = y
  · rw [decide_eq_true c, e.mpr c]; rfl
  · rw [decide_eq_false c]
    cases z : PyData.eqv (toP x) (toP y) with
    | true => exact absurd (e.mp z) c
    | false => rfl
theorem eqD_int {i j : Int} : eqD (.int i) (.int j) = some (decide (i = j)) := by
  rw [eqD_iK (k := 0) rfl rfl (by decide)]
  by_cases c : i = j
  · simp [c]
  · simp [c]
theorem eqD_bl {i j : Bool} : eqD (.bl i) (.bl j) = some (i == j) := by
  have p : ∀ b : Bool, plain (.bl b) = true := fun b => rfl
  unfold eqD
  rw [p, p]
  rfl
section
variable {h : Hp} {i j : Int} {x y : D} {k : Nat}
@[simp] theorem fEq_int : fEq (.int i) (.int j) h = .ok (.bl (decide (i = j))) h := by unfold fEq; rw [eqD_int]; rfl
@[simp] theorem fNe_int : fNe (.int i) (.int j) h = .ok (.bl (!decide (i = j))) h := by unfold fNe; rw [eqD_int]; rfl
@[simp] theorem fEq_bl {a b : Bool} : fEq (.bl a) (.bl b) h = .ok (.bl (a == b)) h := by unfold fEq; rw [eqD_bl]; rfl
@[simp] theorem fNe_bl {a b : Bool} : fNe (.bl a) (.bl b) h = .ok (.bl (!(a == b))) h := by unfold fNe; rw [eqD_bl]; rfl
open Classical in
theorem fEq_iK (qx : iK k x = true) (qy : iK k y = true) (hk : k ≤ 64) : fEq x y h = .ok (.bl (decide (x = y))) h := by unfold fEq; rw [eqD_iK qx qy hk]; rfl
open Classical in
theorem fNe_iK (qx : iK k x = true) (qy : iK k y = true) (hk : k ≤ 64) : fNe x y h = .ok (.bl (!decide (x = y))) h := by unfold fNe; rw [eqD_iK qx qy hk]; rfl
open Classical in
theorem memD_iK {xs : List D} (qx : iK k x = true) (qy : iKs k xs = true) (hk : k < 64) : memD x xs = some (decide (x ∈ xs)) := by
  unfold memD
  rw [plain_iK qx (by omega), plain_iK (d := .lst xs) (k := k + 1) (by simpa [iK] using qy) (by omega)]
  show some _ = some _
  congr 1
  have e : ∀ y ∈ xs, (PyData.eqv (toP y) (toP x) = true ↔ y = x) := fun y hy => eqv_iT y x (iK_iT y k (iKs_all.mp qy y hy)).1 (iK_iT x k qx).1
  by_cases c : x ∈ xs
  · rw [decide_eq_true c, List.any_eq_true]
    exact ⟨x, c, (e x c).mpr rfl⟩
  · rw [decide_eq_false c, List.any_eq_false]
    intro y hy z
    exact c ((e y hy).mp z ▸ hy)
open Classical in
theorem fNotIn_iK {xs : List D} (qx : iK k x = true) (qy : iKs k xs = true) (hk : k < 64) : fNotIn x (.lst xs) h = .ok (.bl (!decide (x ∈ xs))) h := by
  show opt (memD x xs) _ = _
  rw [memD_iK qx qy hk]; rfl
open Classical in
theorem fEq_yes (qx : iK k x = true) (qy : iK k y = true) (hk : k ≤ 64) (e : x = y) : fEq x y h = .ok (.bl true) h := by rw [fEq_iK qx qy hk, decide_eq_true e]
open Classical in
theorem fEq_no (qx : iK k x = true) (qy : iK k y = true) (hk : k ≤ 64) (e : x ≠ y) : fEq x y h = .ok (.bl false) h := by rw [fEq_iK qx qy hk, decide_eq_false e]
open Classical in
theorem fNe_no (qx : iK k x = true) (qy : iK k y = true) (hk : k ≤ 64) (e : x = y) : fNe x y h = .ok (.bl false) h := by rw [fNe_iK qx qy hk, decide_eq_true e]; rfl
open Classical in
theorem fNe_yes (qx : iK k x = true) (qy : iK k y = true) (hk : k ≤ 64) (e : x ≠ y) : fNe x y h = .ok (.bl true) h := by rw [fNe_iK qx qy hk, decide_eq_false e]; rfl
open Classical in
theorem fNotIn_no {xs : List D} (qx : iK k x = true) (qy : iKs k xs = true) (hk : k < 64) (e : x ∈ xs) : fNotIn x (.lst xs) h = .ok (.bl false) h := by rw [fNotIn_iK qx qy hk, decide_eq_true e]; rfl
open Classical in
theorem fNotIn_yes {xs : List D} (qx : iK k x = true) (qy : iKs k xs = true) (hk : k < 64) (e : x ∉ xs) : fNotIn x (.lst xs) h = .ok (.bl true) h := by rw [fNotIn_iK qx qy hk, decide_eq_false e]; rfl
end
end IP

namespace WF
/-- weight, most -/
abbrev W := Nat × Rat
def wsum : List W → Nat
  | [] => 0
  | x :: r => x.1 + wsum r
def msum : List W → Rat
  | [] => 0
  | x :: r => x.2 + msum r
/-- what one gets at a level -/
def got (l : Rat) (x : W) : Rat := if l * (x.1 : Rat) < x.2 then l * (x.1 : Rat) else x.2
def F (l : Rat) : List W → Rat
  | [] => 0
  | x :: r => got l x + F l r
def Ok (ws : List W) : Prop := ∀ x ∈ ws, 1 ≤ x.1 ∧ 0 ≤ x.2
def full (l : Rat) (x : W) : Bool := decide (x.2 < l * (x.1 : Rat))
def levGo : Nat → Rat → List W → Option Rat
  | 0, _, _ => none
  | n + 1, left, op => if op = [] then none else
    if op.filter (full (left / (wsum op : Rat))) = [] then some (left / (wsum op : Rat))
    else levGo n (left - msum (op.filter (full (left / (wsum op : Rat))))) (op.filter fun x => !full (left / (wsum op : Rat)) x)
def lev (a : Rat) (ws : List W) : Option Rat := if a < msum ws then levGo (ws.length + 1) a ws else none
/-- what one is told -/
def share (l : Option Rat) (x : W) : Rat := match l with
  | none => x.2
  | some l => got l x
theorem got_le (l : Rat) (x : W) : got l x ≤ x.2 := by unfold got; split <;> grind
theorem got_le2 (l : Rat) (x : W) : got l x ≤ l * (x.1 : Rat) := by unfold got; split <;> grind
theorem mulw {a b : Rat} {n : Nat} (h : a ≤ b) : a * (n : Rat) ≤ b * (n : Rat) := Rat.mul_le_mul_of_nonneg_right h (by exact_mod_cast Nat.zero_le n)
theorem got_nonneg {l : Rat} {x : W} (hl : 0 ≤ l) (hx : 0 ≤ x.2) : 0 ≤ got l x := by
  have := mulw (n := x.1) hl
  unfold got; split <;> grind
theorem got_mono {l k : Rat} (h : l ≤ k) (x : W) : got l x ≤ got k x := by
  have := mulw (n := x.1) h
  unfold got; split <;> split <;> grind
theorem F_mono {l k : Rat} (h : l ≤ k) : ∀ ws : List W, F l ws ≤ F k ws
  | [] => by unfold F; grind
  | x :: r => by
    have := got_mono h x
    have := F_mono h r
    simp only [F]; grind
theorem F_le (l : Rat) : ∀ ws : List W, F l ws ≤ msum ws
  | [] => by unfold F msum; grind
  | x :: r => by
    have := got_le l x
    have := F_le l r
    simp only [F, msum]; grind
theorem msum_split (p : W → Bool) : ∀ ws : List W, msum (ws.filter p) + msum (ws.filter fun x => !p x) = msum ws
  | [] => by simp [msum]; grind
  | x :: r => by
    have := msum_split p r
    cases c : p x <;> simp [c, msum] <;> grind
theorem wsum_split (p : W → Bool) : ∀ ws : List W, wsum (ws.filter p) + wsum (ws.filter fun x => !p x) = wsum ws
  | [] => by simp [wsum]
  | x :: r => by
    have := wsum_split p r
    cases c : p x <;> simp [c, wsum] <;> omega
theorem F_split (l : Rat) (p : W → Bool) : ∀ ws : List W, F l (ws.filter p) + F l (ws.filter fun x => !p x) = F l ws
  | [] => by simp [F]; grind
  | x :: r => by
    have := F_split l p r
    cases c : p x <;> simp [c, F] <;> grind
theorem F_lin {l : Rat} : ∀ {ws : List W}, (∀ x ∈ ws, got l x = l * (x.1 : Rat)) → F l ws = l * (wsum ws : Rat)
  | [], _ => by simp [F, wsum]
  | x :: r, h => by
    have h1 := h x (List.mem_cons_self ..)
    have h2 := F_lin (l := l) (ws := r) fun y hy => h y (List.mem_cons_of_mem _ hy)
    simp only [F, wsum, h1, h2]
    have : ((x.1 + wsum r : Nat) : Rat) = (x.1 : Rat) + (wsum r : Rat) := by push_cast; rfl
    rw [this]; grind
theorem F_all {l : Rat} : ∀ {ws : List W}, (∀ x ∈ ws, got l x = x.2) → F l ws = msum ws
  | [], _ => by simp [F, msum]
  | x :: r, h => by
    have h1 := h x (List.mem_cons_self ..)
    have h2 := F_all (l := l) (ws := r) fun y hy => h y (List.mem_cons_of_mem _ hy)
    simp only [F, msum, h1, h2]
/-- mosts all below the level's share -/
theorem msum_lt {l : Rat} : ∀ {ws : List W}, (∀ x ∈ ws, x.2 < l * (x.1 : Rat)) → msum ws ≤ l * (wsum ws : Rat)
  | [], _ => by simp [msum, wsum]
  | x :: r, h => by
    have h1 := h x (List.mem_cons_self ..)
    have h2 := msum_lt (l := l) (ws := r) fun y hy => h y (List.mem_cons_of_mem _ hy)
    have : ((x.1 + wsum r : Nat) : Rat) = (x.1 : Rat) + (wsum r : Rat) := by push_cast; rfl
    simp only [msum, wsum, this]; grind
theorem wsum_pos {ws : List W} (h : Ok ws) (n : ws ≠ []) : 1 ≤ wsum ws := by
  cases ws with
  | nil => exact absurd rfl n
  | cons x r => have := (h x (List.mem_cons_self ..)).1; simp only [wsum]; omega
theorem Ok.filter {ws : List W} (h : Ok ws) (p : W → Bool) : Ok (ws.filter p) := fun x hx => h x (List.mem_filter.mp hx).1
theorem levGo_spec : ∀ (n : Nat) (left : Rat) (op : List W), op.length < n → Ok op → 0 ≤ left → left < msum op → ∃ l, levGo n left op = some l ∧ left / (wsum op : Rat) ≤ l ∧ F l op = left
  | 0, _, _, h, _, _, _ => absurd h (Nat.not_lt_zero _)
  | n + 1, left, op, hn, ho, h0, hlt => by
    have ne : op ≠ [] := by
      intro e; subst e
      simp only [msum] at hlt
      grind
    have wp := wsum_pos ho ne
    have wpos : (0 : Rat) < (wsum op : Rat) := by exact_mod_cast wp
    have hl : left / (wsum op : Rat) * (wsum op : Rat) = left := by grind
    have hl0 : 0 ≤ left / (wsum op : Rat) := by
      refine Classical.byContradiction fun c => ?_
      have c' : left / (wsum op : Rat) < 0 := by grind
      have := Rat.mul_lt_mul_of_pos_right c' wpos
      grind
    generalize hL : left / (wsum op : Rat) = L at hl hl0
    unfold levGo
    rw [if_neg ne, hL]
    by_cases c : op.filter (full L) = []
    · rw [if_pos c]
      refine ⟨L, rfl, by grind, ?_⟩
      rw [F_lin fun x hx => ?_, hl]
      have : full L x = false := by
        cases z : full L x with
        | false => rfl
        | true => have q := List.mem_filter.mpr ⟨hx, z⟩; rw [c] at q; cases q
      unfold full at this
      have := of_decide_eq_false this
      unfold got; split <;> grind
    · rw [if_neg c]
      have sp := msum_split (full L) op
      have wsp := wsum_split (full L) op
      have hf : msum (op.filter (full L)) ≤ L * (wsum (op.filter (full L)) : Rat) := msum_lt fun x hx => of_decide_eq_true (List.mem_filter.mp hx).2
      have wsp' : (wsum op : Rat) = (wsum (op.filter (full L)) : Rat) + (wsum (op.filter fun x => !full L x) : Rat) := by rw [← wsp]; push_cast; rfl
      have hw' : L * (wsum (op.filter fun x => !full L x) : Rat) ≤ left - msum (op.filter (full L)) := by
        have : L * (wsum op : Rat) = L * (wsum (op.filter (full L)) : Rat) + L * (wsum (op.filter fun x => !full L x) : Rat) := by rw [wsp']; grind
        grind
      have h0' : 0 ≤ left - msum (op.filter (full L)) := by
        have := mulw (n := wsum (op.filter fun x => !full L x)) hl0
        grind
      have hlt' : left - msum (op.filter (full L)) < msum (op.filter fun x => !full L x) := by grind
      have ho' := ho.filter fun x => !full L x
      have len : (op.filter fun x => !full L x).length < n := by
        have : (op.filter (full L)).length + (op.filter fun x => !full L x).length = op.length := by
          clear hn ho hlt ne wp wpos hl hl0 hL c sp wsp hf wsp' hw' h0' hlt' ho'
          induction op with
          | nil => rfl
          | cons x r ih => cases z : full L x <;> simp [z] <;> omega
        have : 0 < (op.filter (full L)).length := List.length_pos_iff.mpr c
        omega
      obtain ⟨l, e1, e2, e3⟩ := levGo_spec n _ _ len ho' h0' hlt'
      have ne' : (op.filter fun x => !full L x) ≠ [] := by
        intro e; rw [e] at hlt'; simp only [msum] at hlt'; grind
      have wp' := wsum_pos ho' ne'
      have wpos' : (0 : Rat) < (wsum (op.filter fun x => !full L x) : Rat) := by exact_mod_cast wp'
      have hL' : L ≤ l := by
        refine Classical.byContradiction fun z => ?_
        have z' : l < L := by grind
        have a1 : (left - msum (op.filter (full L))) / (wsum (op.filter fun x => !full L x) : Rat) < L := by grind
        have a2 := Rat.mul_lt_mul_of_pos_right a1 wpos'
        have a3 : (left - msum (op.filter (full L))) / (wsum (op.filter fun x => !full L x) : Rat) * (wsum (op.filter fun x => !full L x) : Rat) = left - msum (op.filter (full L)) := by grind
        grind
      refine ⟨l, e1, hL', ?_⟩
      have e4 : F l (op.filter (full L)) = msum (op.filter (full L)) := F_all fun x hx => by
        have q := of_decide_eq_true (List.mem_filter.mp hx).2
        have q2 := mulw (n := x.1) hL'
        unfold got; split <;> grind
      have := F_split l (full L) op
      grind
/-- THE LEVEL: where not all is had, that at which all get the amount together -/
theorem lev_none {a : Rat} {ws : List W} (h : ¬ a < msum ws) : lev a ws = none := by unfold lev; rw [if_neg h]
theorem lev_some {a : Rat} {ws : List W} (ho : Ok ws) (h0 : 0 ≤ a) (h : a < msum ws) : ∃ l, lev a ws = some l ∧ 0 ≤ l ∧ F l ws = a := by
  obtain ⟨l, e1, e2, e3⟩ := levGo_spec (ws.length + 1) a ws (by omega) ho h0 h
  refine ⟨l, by unfold lev; rw [if_pos h, e1], ?_, e3⟩
  refine Classical.byContradiction fun c => ?_
  have ne : ws ≠ [] := by
    intro e; subst e
    simp only [msum] at h
    grind
  have wpos : (0 : Rat) < (wsum ws : Rat) := by exact_mod_cast wsum_pos ho ne
  have a1 : a / (wsum ws : Rat) < 0 := by grind
  have a2 := Rat.mul_lt_mul_of_pos_right a1 wpos
  have a3 : a / (wsum ws : Rat) * (wsum ws : Rat) = a := by grind
  grind
end WF

namespace IP
open PySem (Str PyData)
open Sh
/-- a fraction -/
def fr (q : Rat) : D := .tup [.int q.num, .int (q.den : Int)]
theorem fr_inj {p q : Rat} : fr p = fr q ↔ p = q := by
  constructor
  · intro h
    simp only [fr, D.tup.injEq, List.cons.injEq, D.int.injEq, and_true] at h
    exact Rat.ext h.1 (by exact_mod_cast h.2)
  · intro h; rw [h]
theorem fr_iK (q : Rat) : iK 1 (fr q) = true := rfl
/-- small fractions -/
structure Smq (q : Rat) : Prop where
  nn : 0 ≤ q
  num : q.num.natAbs < 2 ^ 400
  den : q.den < 2 ^ 400
theorem Smq.n0 {q : Rat} (s : Smq q) : 0 ≤ q.num := Rat.num_nonneg.mpr s.nn
def bitsLt (i : Int) : Prop := bits i < 400
theorem bits_lt {i : Int} (h : i.natAbs < 2 ^ 400) : bitsLt i := by
  unfold bitsLt bits
  by_cases z : i.natAbs = 0
  · rw [z]; decide
  · exact (Nat.log2_lt z).mpr h
theorem Smq.sn {q : Rat} (s : Smq q) : bitsLt q.num := bits_lt s.num
theorem Smq.sd {q : Rat} (s : Smq q) : bitsLt (q.den : Int) := bits_lt (by rw [Int.natAbs_natCast]; exact s.den)
theorem nat_bits {n : Nat} (h : n < 2 ^ 400) : bitsLt (n : Int) := bits_lt (by rw [Int.natAbs_natCast]; exact h)
theorem mulOk_b {i j : Int} (h : bitsLt i) (k : bitsLt j) : mulOk i j = true := by
  unfold mulOk
  unfold bitsLt at h k
  have : bits i + bits j < 1000000 := by omega
  rw [decide_eq_true this]; simp
theorem bits_of {x k : Nat} (h : x < 2 ^ k) (hk : 0 < k) : bits (x : Int) < k := by
  unfold bits
  show (x : Int).natAbs.log2 < k
  rw [Int.natAbs_natCast]
  by_cases z : x = 0
  · subst z; exact hk
  · exact (Nat.log2_lt z).mpr h
/-- Euclid's loop, of whatever names -/
theorem gcd_loop {c : T} {b : S} {h : Hp} (st : Nat → Nat → Lo → Prop) (hc : ∀ x y σ, st x y σ → c σ h = .ok (decide (y ≠ 0)) h) (hb : ∀ x y σ, y ≠ 0 → st x y σ → ∃ σ', b σ h = .ok (.nxt σ') h ∧ st y (x % y) σ') :
    ∀ (n x y : Nat) (σ : Lo), y < n → st x y σ → ∃ σ', sWhl n c b σ h = .ok (.nxt σ') h ∧ st (Nat.gcd x y) 0 σ'
  | 0, _, _, _, h, _ => absurd h (Nat.not_lt_zero _)
  | n + 1, x, y, σ, hy, hs => by
    rw [sWhl_succ, hc x y σ hs]
    by_cases z : y = 0
    · subst z
      exact ⟨σ, rfl, by simpa using hs⟩
    · obtain ⟨σ1, e1, s1⟩ := hb x y σ z hs
      obtain ⟨σ2, e2, s2⟩ := gcd_loop st hc hb n y (x % y) σ1 (by have := Nat.mod_lt x (Nat.pos_of_ne_zero z); omega) s1
      refine ⟨σ2, ?_, ?_⟩
      · simp only [stm_ok, decide_eq_true z, if_true]
        rw [e1, trn_nxt, e2]
      · have e : Nat.gcd x y = Nat.gcd y (x % y) := by
          rw [Nat.gcd_comm x y, Nat.gcd_rec y x, Nat.gcd_comm]
        rw [e]; exact s2
theorem mkRat_nat {x y : Nat} (hy : 0 < y) : (mkRat (x : Int) y).num = (x : Int) / (Nat.gcd x y : Int) ∧ (mkRat (x : Int) y).den = y / Nat.gcd x y := by
  rw [← Rat.normalize_eq_mkRat (Nat.pos_iff_ne_zero.mp hy), Rat.normalize_eq]
  simp
theorem fuel_big {y : Nat} (h : y < 2 ^ 1000) : y < fuel := Nat.lt_of_lt_of_le h (by decide)
theorem lowest_eq {x y : Nat} {h : Hp} (hy : 0 < y) (hb : y < 2 ^ 1000) : f_lowest [.int x, .int y] h = .ok (fr (mkRat x y)) h := by
  have L := gcd_loop (c := tVal (two fNe (eLoc 3) (eCst (.int 0)))) (b := bCons (sPar 2 3 (eLoc 3) (two fMod (eLoc 2) (eLoc 3))) bNil) (h := h)
    (fun a b σ => σ = [some (.int x), some (.int y), some (.int a), some (.int b)])
    (fun a b σ e => by subst e; by_cases z : b = 0 <;> simp [z] <;> omega)
    (fun a b σ z e => by
      subst e
      refine ⟨_, ?_, rfl⟩
      simp [fMod_int (show (0 : Int) < (b : Int) by omega)])
    fuel x y _ (fuel_big hb) rfl
  obtain ⟨σ', e, hσ⟩ := L
  subst hσ
  have gp : 0 < Nat.gcd x y := Nat.gcd_pos_of_pos_right _ hy
  have gl : Nat.gcd x y < 2 ^ 1000 := Nat.lt_of_le_of_lt (Nat.gcd_le_right _ hy) hb
  have gb : bits (Nat.gcd x y : Int) < 9000 := Nat.lt_trans (bits_of gl (by decide)) (by decide)
  obtain ⟨e1, e2⟩ := mkRat_nat (x := x) hy
  simp only [f_lowest, b_lowest, mkFn_ok, List.length_cons, List.length_nil, if_true, entry, bCons_ok, sPar_ok, List.map_cons, List.map_nil, List.cons_append, List.nil_append, List.replicate, eLoc_0, eLoc_s, stm_ok, List.set_cons_succ, List.set_cons_zero, thn_nxt]
  rw [e]
  simp [fFdv_int (show (0 : Int) < (Nat.gcd x y : Int) by omega) gb, fr, e1, e2]

theorem lowest_int {i : Int} {y : Nat} {h : Hp} (hi : 0 ≤ i) (hy : 0 < y) (hb : y < 2 ^ 1000) : f_lowest [.int i, .int (y : Int)] h = .ok (fr (mkRat i y)) h := by
  obtain ⟨x, rfl⟩ := Int.eq_ofNat_of_zero_le hi
  exact lowest_eq hy hb
theorem mul_lt {a b k m : Nat} (ha : a < 2 ^ k) (hb : b < 2 ^ m) : a * b < 2 ^ (k + m) := by
  rw [Nat.pow_add]
  exact Nat.mul_lt_mul'' ha hb
theorem big1 {a : Nat} (h : a < 2 ^ 400) : a < 2 ^ 1000 := Nat.lt_trans h (Nat.pow_lt_pow_right (by decide) (by decide))
theorem big2 {a : Nat} (h : a < 2 ^ (400 + 400)) : a < 2 ^ 1000 := Nat.lt_trans h (Nat.pow_lt_pow_right (by decide) (by decide))
section
variable {p q : Rat} {h : Hp}
theorem plus_eq (sp : Smq p) (sq : Smq q) : f_plus [fr p, fr q] h = .ok (fr (p + q)) h := by
  have e : (p.num * (q.den : Int) + q.num * (p.den : Int)) ≥ 0 := Int.add_nonneg (Int.mul_nonneg sp.n0 (by omega)) (Int.mul_nonneg sq.n0 (by omega))
  have d : 0 < p.den * q.den := Nat.mul_pos p.den_pos q.den_pos
  have L := lowest_int (h := h) e d (big2 (mul_lt sp.den sq.den))
  rw [← Rat.add_def'] at L
  simp only [f_plus, b_plus, mkFn_ok, List.length_cons, List.length_nil, if_true, entry, bCons_ok, sRet_ok, eCall_ok, aCons_ok, aNil_ok, two_ok, List.map_cons, List.map_nil, List.cons_append, List.nil_append, List.replicate, eLoc_0, eLoc_s, eCst_ok, bnd_ok, fr, fIdx_tup0, fIdx_tup1, fMul_int (mulOk_b sp.sn sq.sd), fMul_int (mulOk_b sq.sn sp.sd), fMul_int (mulOk_b sp.sd sq.sd), fAdd_int, Nat.reduceSub, Nat.reduceAdd]
  have c : ((p.den : Int) * (q.den : Int)) = ((p.den * q.den : Nat) : Int) := by push_cast; rfl
  rw [c, L]
  rfl
theorem minus_eq (sp : Smq p) (sq : Smq q) (hle : q ≤ p) : f_minus [fr p, fr q] h = .ok (fr (p - q)) h := by
  have e : (p.num * (q.den : Int) - q.num * (p.den : Int)) ≥ 0 := by
    have := (Rat.le_iff q p).mp hle
    omega
  have d : 0 < p.den * q.den := Nat.mul_pos p.den_pos q.den_pos
  have L := lowest_int (h := h) e d (big2 (mul_lt sp.den sq.den))
  rw [← Rat.sub_def'] at L
  simp only [f_minus, b_minus, mkFn_ok, List.length_cons, List.length_nil, if_true, entry, bCons_ok, sRet_ok, eCall_ok, aCons_ok, aNil_ok, two_ok, List.map_cons, List.map_nil, List.cons_append, List.nil_append, List.replicate, eLoc_0, eLoc_s, eCst_ok, bnd_ok, fr, fIdx_tup0, fIdx_tup1, fMul_int (mulOk_b sp.sn sq.sd), fMul_int (mulOk_b sq.sn sp.sd), fMul_int (mulOk_b sp.sd sq.sd), fSub_int, Nat.reduceSub, Nat.reduceAdd]
  have c : ((p.den : Int) * (q.den : Int)) = ((p.den * q.den : Nat) : Int) := by push_cast; rfl
  rw [c, L]
  rfl
theorem times_eq (sp : Smq p) {n : Nat} (hb : n < 2 ^ 400) : f_times [fr p, .int n] h = .ok (fr (p * n)) h := by
  have e : p.num * (n : Int) ≥ 0 := Int.mul_nonneg sp.n0 (by omega)
  have L := lowest_int (h := h) e p.den_pos (big1 sp.den)
  have c : mkRat (p.num * (n : Int)) p.den = p * (n : Rat) := by
    rw [Rat.mul_def']
    simp
  rw [c] at L
  simp only [f_times, b_times, mkFn_ok, List.length_cons, List.length_nil, if_true, entry, bCons_ok, sRet_ok, eCall_ok, aCons_ok, aNil_ok, two_ok, List.map_cons, List.map_nil, List.cons_append, List.nil_append, List.replicate, eLoc_0, eLoc_s, eCst_ok, bnd_ok, fr, fIdx_tup0, fIdx_tup1, fMul_int (mulOk_b sp.sn (nat_bits hb)), Nat.reduceSub, Nat.reduceAdd]
  rw [L]
  rfl
theorem parted_eq (sp : Smq p) {n : Nat} (hn : 0 < n) (hb : n < 2 ^ 400) : f_parted [fr p, .int n] h = .ok (fr (p / n)) h := by
  have L := lowest_int (h := h) sp.n0 (Nat.mul_pos p.den_pos hn) (big2 (mul_lt sp.den hb))
  have c : mkRat p.num (p.den * n) = p / (n : Rat) := by
    rw [Rat.mkRat_eq_div]
    have e : p = (p.num : Rat) / (p.den : Rat) := by rw [← Rat.mkRat_eq_div, Rat.mkRat_self]
    have d1 : (p.den : Rat) ≠ 0 := by exact_mod_cast p.den_nz
    have d2 : (n : Rat) ≠ 0 := by
      have : n ≠ 0 := by omega
      exact_mod_cast this
    have c2 : ((p.den * n : Nat) : Rat) = (p.den : Rat) * (n : Rat) := by push_cast; rfl
    rw [c2]
    conv => rhs; rw [e]
    grind
  rw [c] at L
  simp only [f_parted, b_parted, mkFn_ok, List.length_cons, List.length_nil, if_true, entry, bCons_ok, sRet_ok, eCall_ok, aCons_ok, aNil_ok, two_ok, List.map_cons, List.map_nil, List.cons_append, List.nil_append, List.replicate, eLoc_0, eLoc_s, eCst_ok, bnd_ok, fr, fIdx_tup0, fIdx_tup1, fMul_int (mulOk_b sp.sd (nat_bits hb)), Nat.reduceSub, Nat.reduceAdd]
  have c : ((p.den : Int) * (n : Int)) = ((p.den * n : Nat) : Int) := by push_cast; rfl
  rw [c, L]
  rfl
theorem is_less_eq (sp : Smq p) (sq : Smq q) : f_is_less [fr p, fr q] h = .ok (.bl (decide (p < q))) h := by
  have e : decide (p.num * (q.den : Int) < q.num * (p.den : Int)) = decide (p < q) := by
    rw [decide_eq_decide, Rat.lt_iff]
  simp only [f_is_less, b_is_less, mkFn_ok, List.length_cons, List.length_nil, if_true, entry, bCons_ok, sRet_ok, two_ok, List.map_cons, List.map_nil, List.cons_append, List.nil_append, List.replicate, eLoc_0, eLoc_s, eCst_ok, bnd_ok, fr, fIdx_tup0, fIdx_tup1, fMul_int (mulOk_b sp.sn sq.sd), fMul_int (mulOk_b sq.sn sp.sd), fCmp_int, e, Nat.reduceSub, Nat.reduceAdd]
  rfl
theorem lesser_eq (sp : Smq p) (sq : Smq q) : f_lesser [fr p, fr q] h = .ok (fr (if q < p then q else p)) h := by
  have L := is_less_eq (h := h) sq sp
  have e1 : entry 2 [fr p, fr q] = [some (fr p), some (fr q)] := rfl
  simp only [f_lesser, b_lesser, mkFn_ok, List.length_cons, List.length_nil, if_true, e1, bCons_ok, sRet_ok, eIf_ok, tVal_ok, eCall_ok, aCons_ok, aNil_ok, eLoc_0, eLoc_s, bnd_ok, Nat.reduceAdd]
  rw [L]
  by_cases c : q < p
  · simp [c]
  · simp [c]
end
theorem fr0 : (D.tup [.int 0, .int 1]) = fr 0 := rfl
def psum : Rat → List Rat → List Rat
  | b, [] => [b]
  | b, q :: r => b :: psum (b + q) r
/-- the sum, all partial sums small -/
theorem total_eq {qs : List Rat} {h : Hp} (sq : ∀ q ∈ qs, Smq q) (ss : ∀ q ∈ psum 0 qs, Smq q) : f_total [.lst (qs.map fr)] h = .ok (fr (qs.foldl (· + ·) 0)) h := by
  have e1 : entry 3 [.lst (qs.map fr)] = [some (.lst (qs.map fr)), none, none] := rfl
  have key : ∀ (qs : List Rat) (b : Rat) (l : D) (o : Option D), (∀ q ∈ qs, Smq q) → (∀ q ∈ psum b qs, Smq q) → ∃ o', forGo (gLoc 2) (bCons (sAsg (gLoc 1) (eCall 2 f_plus (aCons (eLoc 1) (aCons (eLoc 2) aNil)))) bNil) (qs.map fr) [some l, some (fr b), o] h = .ok (.nxt [some l, some (fr (qs.foldl (· + ·) b)), o']) h := by
    intro qs
    induction qs with
    | nil => intro b l o _ _; exact ⟨o, rfl⟩
    | cons q r ih =>
      intro b l o hq hs
      have hb : Smq b := hs b (by simp [psum])
      have P := plus_eq (h := h) hb (hq q (List.mem_cons_self ..))
      obtain ⟨o', e⟩ := ih (b + q) l (some (fr q)) (fun x hx => hq x (List.mem_cons_of_mem _ hx)) (fun x hx => hs x (by simp [psum, hx]))
      refine ⟨o', ?_⟩
      rw [List.map_cons, forGo_cons]
      simp only [gLoc_ok, calm_ok, stm_ok, List.set_cons_succ, List.set_cons_zero, bCons_ok, sAsg_ok, eCall_ok, aCons_ok, aNil_ok, eLoc_0, eLoc_s, bnd_ok, List.length_cons, List.length_nil, Nat.reduceAdd, if_true, P, thn_nxt, bNil_ok, trn_nxt]
      exact e
  obtain ⟨o', e⟩ := key qs 0 (.lst (qs.map fr)) none sq ss
  simp only [f_total, b_total, mkFn_ok, List.length_cons, List.length_nil, if_true, e1, bCons_ok, sAsg_ok, eCst_ok, stm_ok, gLoc_ok, calm_ok, List.set_cons_succ, List.set_cons_zero, thn_nxt, sFor_ok, iSeq_ok, eLoc_0, bnd_ok, seqOf_lst, opt_some, fr0, Nat.reduceAdd]
  rw [e]
  rfl
end IP

namespace IP
open PySem (Str PyData)
open Sh WF
/-! ### sizes -/
def Mul (d : Nat) (q : Rat) : Prop := ∃ k : Int, q * (d : Rat) = (k : Rat)
theorem Mul.zero {d : Nat} : Mul d 0 := ⟨0, by grind⟩
theorem Mul.add {d : Nat} {p q : Rat} (a : Mul d p) (b : Mul d q) : Mul d (p + q) := by
  obtain ⟨k, e⟩ := a
  obtain ⟨l, f⟩ := b
  exact ⟨k + l, by push_cast; grind⟩
theorem Mul.sub {d : Nat} {p q : Rat} (a : Mul d p) (b : Mul d q) : Mul d (p - q) := by
  obtain ⟨k, e⟩ := a
  obtain ⟨l, f⟩ := b
  exact ⟨k - l, by push_cast; grind⟩
theorem Mul.nat {d : Nat} {n : Nat} : Mul d (n : Rat) := ⟨n * d, by push_cast; grind⟩
theorem Mul.times {d : Nat} {p : Rat} (a : Mul d p) (n : Nat) : Mul d (p * n) := by
  obtain ⟨k, e⟩ := a
  exact ⟨k * n, by push_cast; grind⟩
theorem Mul.part {d : Nat} {p : Rat} (a : Mul d p) {n : Nat} (hn : 0 < n) : Mul (d * n) (p / n) := by
  obtain ⟨k, e⟩ := a
  have : (n : Rat) ≠ 0 := by
    have : n ≠ 0 := by omega
    exact_mod_cast this
  exact ⟨k, by push_cast; grind⟩
theorem Mul.wide {d : Nat} {p : Rat} (a : Mul d p) (n : Nat) : Mul (d * n) p := by
  obtain ⟨k, e⟩ := a
  exact ⟨k * n, by push_cast; grind⟩
theorem sm_of {d : Nat} {q : Rat} (hd : 0 < d) (m : Mul d q) (h0 : 0 ≤ q) (B : Nat) (hq : q ≤ B) (hb : B * d < 2 ^ 400) (hb2 : d < 2 ^ 400) : Smq q := by
  obtain ⟨k, e⟩ := m
  have dn : (d : Rat) ≠ 0 := by
    have : d ≠ 0 := by omega
    exact_mod_cast this
  have dp : (0 : Rat) < (d : Rat) := by exact_mod_cast hd
  have eq : q = mkRat k d := by rw [Rat.mkRat_eq_div, ← e]; grind
  have k0 : (0 : Rat) ≤ (k : Rat) := by
    rw [← e]
    have := Rat.mul_nonneg h0 (Rat.le_of_lt dp)
    exact this
  have k0' : 0 ≤ k := by exact_mod_cast k0
  have kB : (k : Rat) ≤ ((B * d : Nat) : Rat) := by
    rw [← e]; push_cast
    exact Rat.mul_le_mul_of_nonneg_right hq (Rat.le_of_lt dp)
  have kB' : k ≤ ((B * d : Nat) : Int) := by exact_mod_cast kB
  obtain ⟨x, rfl⟩ := Int.eq_ofNat_of_zero_le k0'
  obtain ⟨e1, e2⟩ := mkRat_nat (x := x) hd
  refine ⟨h0, ?_, ?_⟩
  · rw [eq, e1]
    have g : (x : Int) / (Nat.gcd x d : Int) = ((x / Nat.gcd x d : Nat) : Int) := by push_cast; rfl
    rw [g, Int.natAbs_natCast]
    have h1 : x ≤ B * d := by exact_mod_cast kB'
    exact Nat.lt_of_le_of_lt (Nat.le_trans (Nat.div_le_self _ _) h1) hb
  · rw [eq, e2]
    exact Nat.lt_of_le_of_lt (Nat.div_le_self _ _) hb2
/-- all that happens stays small -/
structure Fits (d A Wt : Nat) (a : Rat) (ws : List W) : Prop where
  ok : Ok ws
  dp : 0 < d
  A1 : 1 ≤ A
  W1 : 1 ≤ Wt
  bd : A * (d * Wt) < 2 ^ 300
  a0 : 0 ≤ a
  aA : a ≤ A
  mA : msum ws ≤ A
  wW : wsum ws ≤ Wt
  Wb : Wt < 2 ^ 90
  am : Mul d a
  wm : ∀ x ∈ ws, Mul d x.2
  len : ws.length ≤ 50000
theorem msum_nonneg {ws : List W} (h : Ok ws) : 0 ≤ msum ws := by
  induction ws with
  | nil => simp [msum]
  | cons x r ih =>
    have h1 := (h x (List.mem_cons_self ..)).2
    have h2 := ih fun y hy => h y (List.mem_cons_of_mem _ hy)
    simp only [msum]; grind
theorem most_le {ws : List W} (h : Ok ws) : ∀ x ∈ ws, x.2 ≤ msum ws := by
  induction ws with
  | nil => intro x hx; cases hx
  | cons y r ih =>
    have h1 := (h y (List.mem_cons_self ..)).2
    have ho : Ok r := fun z hz => h z (List.mem_cons_of_mem _ hz)
    have h2 := ih ho
    have h3 := msum_nonneg ho
    intro x hx
    rcases List.mem_cons.mp hx with e | hx
    · subst e; simp only [msum]; grind
    · have := h2 x hx; simp only [msum]; grind
theorem w_le {ws : List W} : ∀ x ∈ ws, x.1 ≤ wsum ws := by
  induction ws with
  | nil => intro x hx; cases hx
  | cons y r ih =>
    intro x hx
    rcases List.mem_cons.mp hx with e | hx
    · subst e; simp only [wsum]; omega
    · have := ih x hx; simp only [wsum]; omega
theorem mul_le3 {A d W' Wt : Nat} (h : W' ≤ Wt) (b : A * (d * Wt) < 2 ^ 300) : A * (d * W') < 2 ^ 400 :=
  Nat.lt_of_le_of_lt (Nat.mul_le_mul_left A (Nat.mul_le_mul_left d h)) (Nat.lt_trans b (Nat.pow_lt_pow_right (by decide) (by decide)))
theorem le_A {A d Wt : Nat} (h : 1 ≤ A) (b : A * (d * Wt) < 2 ^ 300) : d * Wt < 2 ^ 300 :=
  Nat.lt_of_le_of_lt (by have := Nat.mul_le_mul_right (d * Wt) h; omega) b
section
variable {d A Wt : Nat} {a : Rat} {ws : List W} (f : Fits d A Wt a ws)
include f
theorem Fits.dW {W' : Nat} (h : W' ≤ Wt) : d * W' < 2 ^ 400 :=
  Nat.lt_of_le_of_lt (Nat.mul_le_mul_left d h) (Nat.lt_trans (le_A f.A1 f.bd) (Nat.pow_lt_pow_right (by decide) (by decide)))
/-- what is a multiple of 1 / (d * W'), and no more than A -/
theorem Fits.sm {W' : Nat} {q : Rat} (h1 : 1 ≤ W') (h : W' ≤ Wt) (m : Mul (d * W') q) (h0 : 0 ≤ q) (hq : q ≤ A) : Smq q :=
  sm_of (Nat.mul_pos f.dp h1) m h0 A hq (mul_le3 h f.bd) (f.dW h)
theorem Fits.sm1 {q : Rat} (m : Mul d q) (h0 : 0 ≤ q) (hq : q ≤ A) : Smq q := f.sm (W' := 1) (Nat.le_refl _) f.W1 (by simpa using m) h0 hq
theorem Fits.sa : Smq a := f.sm1 f.am f.a0 f.aA
theorem Fits.sx {x : W} (hx : x ∈ ws) : Smq x.2 := f.sm1 (f.wm x hx) (f.ok x hx).2 (by have := most_le f.ok x hx; have := f.mA; grind)
end
def wf (x : W) : D := .tup [.int (x.1 : Int), fr x.2]
theorem wf_inj {x y : W} : wf x = wf y ↔ x = y := by
  constructor
  · intro h
    simp only [wf, D.tup.injEq, List.cons.injEq, D.int.injEq, and_true] at h
    exact Prod.ext (by exact_mod_cast h.1) (fr_inj.mp h.2)
  · intro h; rw [h]
theorem wf_iK (x : W) : iK 2 (wf x) = true := rfl
theorem wfs_iK (xs : List W) : iKs 2 (xs.map wf) = true := by
  rw [iKs_all]
  intro d hd
  obtain ⟨x, _, rfl⟩ := List.mem_map.mp hd
  exact wf_iK x
theorem lst_iK {k : Nat} {xs : List D} (h : iKs k xs = true) : iK (k + 1) (.lst xs) = true := by simpa [iK] using h
def lsum : List Rat → Rat
  | [] => 0
  | q :: r => q + lsum r
theorem foldl_lsum : ∀ (qs : List Rat) (b : Rat), qs.foldl (· + ·) b = b + lsum qs
  | [], b => by simp [lsum]; grind
  | q :: r, b => by
    rw [List.foldl_cons, foldl_lsum r]
    simp only [lsum]; grind
theorem lsum_msum : ∀ ws : List W, lsum (ws.map (·.2)) = msum ws
  | [] => rfl
  | x :: r => by simp only [List.map_cons, lsum, msum, lsum_msum r]
theorem psum_mem {d : Nat} : ∀ (qs : List Rat) (b : Rat), Mul d b → 0 ≤ b → (∀ q ∈ qs, 0 ≤ q ∧ Mul d q) → ∀ r ∈ psum b qs, Mul d r ∧ 0 ≤ r ∧ r ≤ b + lsum qs
  | [], b, mb, h0, _, r, hr => by
    simp [psum] at hr; subst hr
    exact ⟨mb, h0, by simp [lsum]; grind⟩
  | q :: qs, b, mb, h0, hq, r, hr => by
    have hq1 := hq q (List.mem_cons_self ..)
    have hq2 : ∀ x ∈ qs, 0 ≤ x ∧ Mul d x := fun x hx => hq x (List.mem_cons_of_mem _ hx)
    have ln : ∀ qs : List Rat, (∀ x ∈ qs, 0 ≤ x ∧ Mul d x) → 0 ≤ lsum qs := by
      intro qs
      induction qs with
      | nil => intro _; simp [lsum]
      | cons x r ih =>
        intro h
        have h1 := (h x (List.mem_cons_self ..)).1
        have h2 := ih fun y hy => h y (List.mem_cons_of_mem _ hy)
        simp only [lsum]; grind
    have l0 := ln qs hq2
    simp only [psum, List.mem_cons] at hr
    rcases hr with hr | hr
    · subst hr
      refine ⟨mb, h0, ?_⟩
      simp only [lsum]; grind
    · obtain ⟨m, a, c⟩ := psum_mem qs (b + q) (mb.add hq1.2) (by grind) hq2 r hr
      refine ⟨m, a, ?_⟩
      simp only [lsum]; grind
theorem total_sum {d : Nat} {qs : List Rat} {h : Hp} {B : Nat} (hd : 0 < d) (hq : ∀ q ∈ qs, 0 ≤ q ∧ Mul d q) (hl : lsum qs ≤ B) (hB : B * d < 2 ^ 400) (hd2 : d < 2 ^ 400) : f_total [.lst (qs.map fr)] h = .ok (fr (lsum qs)) h := by
  have pm := psum_mem (d := d) qs 0 Mul.zero (by grind) hq
  have smp : ∀ r ∈ psum 0 qs, Smq r := fun r hr => by
    obtain ⟨m, a, c⟩ := pm r hr
    exact sm_of hd m a B (by grind) hB hd2
  have mem : ∀ (qs : List Rat), (∀ q ∈ qs, 0 ≤ q ∧ Mul d q) → (∀ q ∈ qs, q ≤ lsum qs) ∧ 0 ≤ lsum qs := by
    intro qs
    induction qs with
    | nil => intro _; exact ⟨fun q hq => (by cases hq), (by simp [lsum])⟩
    | cons x r ih =>
      intro h
      have h1 := (h x (List.mem_cons_self ..)).1
      obtain ⟨h2, h3⟩ := ih fun y hy => h y (List.mem_cons_of_mem _ hy)
      refine ⟨fun q hq => ?_, by simp only [lsum]; grind⟩
      rcases List.mem_cons.mp hq with e | hq
      · subst e; simp only [lsum]; grind
      · have := h2 q hq; simp only [lsum]; grind
  have smq : ∀ q ∈ qs, Smq q := fun q hq' => sm_of hd (hq q hq').2 (hq q hq').1 B (by have := (mem qs hq).1 q hq'; grind) hB hd2
  rw [total_eq smq smp, foldl_lsum]
  congr 2
  grind
/-! ### the level -/
theorem intsD_map {α : Type} (f : α → Int) : ∀ xs : List α, intsD (xs.map fun x => D.int (f x)) = some (xs.map f)
  | [] => rfl
  | x :: r => by
    show (match intsD (r.map fun x => D.int (f x)) with
      | some is => some (f x :: is)
      | none => none) = _
    rw [intsD_map f r]; rfl
theorem blsD_map {α : Type} (f : α → Bool) : ∀ xs : List α, blsD (xs.map fun x => D.bl (f x)) = some (xs.map f)
  | [] => rfl
  | x :: r => by
    show (match blsD (r.map fun x => D.bl (f x)) with
      | some is => some (f x :: is)
      | none => none) = _
    rw [blsD_map f r]; rfl
theorem fSum_map {α : Type} (f : α → Int) (xs : List α) {h : Hp} : fSum (.lst (xs.map fun x => D.int (f x))) h = .ok (.int (xs.map f).sum) h := by
  show opt (intsD _) _ = _
  rw [intsD_map]; rfl
theorem fAny_map {α : Type} (f : α → Bool) (xs : List α) {h : Hp} : fAny (.lst (xs.map fun x => D.bl (f x))) h = .ok (.bl (xs.any f)) h := by
  show opt (blsD _) _ = _
  rw [blsD_map]
  simp
theorem fAll_map {α : Type} (f : α → Bool) (xs : List α) {h : Hp} : fAll (.lst (xs.map fun x => D.bl (f x))) h = .ok (.bl (xs.all f)) h := by
  show opt (blsD _) _ = _
  rw [blsD_map]
  simp
theorem sum_w : ∀ ws : List W, (ws.map fun x => (x.1 : Int)).sum = (wsum ws : Int)
  | [] => rfl
  | x :: r => by simp only [List.map_cons, List.sum_cons, sum_w r, wsum]; push_cast; rfl
section
variable {h : Hp}
theorem lc_fst {σ : Lo} {e : E} {i j : Nat} {ws : List W} (hσ : e σ h = .ok (.lst (ws.map wf)) h) (hl : ws.length ≤ 50000) (hi : i < σ.length) (hj : j < σ.length) (ne : i ≠ j) :
    eLc [i, j] (gTup 2 (gCons (gLoc i) (gCons (gLoc j) gNil))) (iSeq e) tYes (eLoc i) σ h = .ok (.lst (ws.map fun x => D.int (x.1 : Int))) h := by
  refine eLc_all (u := wf) (by rw [iSeq_ok, hσ]; rfl) (fun x hx => ?_) (by omega)
  have q : ((((wipe σ [i, j]).set i (some (D.int (x.1 : Int)))).set j (some (fr x.2))))[i]? = some (some (D.int (x.1 : Int))) := by
    rw [List.getElem?_set_ne (Ne.symm ne), List.getElem?_set_self (by simpa using hi)]
  show ((gTup 2 _ (D.tup [_, _]) _ h).bnd _).calm = _
  simp only [gTup_ok, List.length_cons, List.length_nil, Nat.reduceAdd, if_true, gCons_ok, gLoc_ok, bnd_ok, gNil_ok, tYes_ok]
  rw [eLoc_ok q]
  rfl
theorem lc_snd {σ : Lo} {e : E} {i j : Nat} {ws : List W} (hσ : e σ h = .ok (.lst (ws.map wf)) h) (hl : ws.length ≤ 50000) (hi : i < σ.length) (hj : j < σ.length) (ne : i ≠ j) :
    eLc [i, j] (gTup 2 (gCons (gLoc i) (gCons (gLoc j) gNil))) (iSeq e) tYes (eLoc j) σ h = .ok (.lst (ws.map fun x => fr x.2)) h := by
  refine eLc_all (u := wf) (by rw [iSeq_ok, hσ]; rfl) (fun x hx => ?_) (by omega)
  have q : ((((wipe σ [i, j]).set i (some (D.int (x.1 : Int)))).set j (some (fr x.2))))[j]? = some (some (fr x.2)) := by
    rw [List.getElem?_set_self (by simpa using hj)]
  show ((gTup 2 _ (D.tup [_, _]) _ h).bnd _).calm = _
  simp only [gTup_ok, List.length_cons, List.length_nil, Nat.reduceAdd, if_true, gCons_ok, gLoc_ok, bnd_ok, gNil_ok, tYes_ok]
  rw [eLoc_ok q]
  rfl
end
end IP

namespace IP
open PySem (Str PyData)
open Sh WF
section
variable {h : Hp}
theorem total_most {σ : Lo} {e : E} {i j : Nat} {ws : List W} {d A : Nat} (hσ : e σ h = .ok (.lst (ws.map wf)) h) (hl : ws.length ≤ 50000) (hi : i < σ.length) (hj : j < σ.length) (ne : i ≠ j)
    (ok : Ok ws) (dp : 0 < d) (wm : ∀ x ∈ ws, Mul d x.2) (mA : msum ws ≤ A) (bd : A * d < 2 ^ 400) (bd2 : d < 2 ^ 400) :
    eCall 1 f_total (aCons (eLc [i, j] (gTup 2 (gCons (gLoc i) (gCons (gLoc j) gNil))) (iSeq e) tYes (eLoc j)) aNil) σ h = .ok (fr (msum ws)) h := by
  have L := lc_snd hσ hl hi hj ne
  have e1 : (ws.map fun x => fr x.2) = (ws.map (·.2)).map fr := by rw [List.map_map]; rfl
  have T := total_sum (h := h) (qs := ws.map (·.2)) (B := A) dp (fun q hq => by
    obtain ⟨x, hx, rfl⟩ := List.mem_map.mp hq
    exact ⟨(ok x hx).2, wm x hx⟩) (by rw [lsum_msum]; exact mA) bd bd2
  rw [lsum_msum, ← e1] at T
  simp only [eCall_ok, aCons_ok, aNil_ok, L, bnd_ok, List.length_cons, List.length_nil, Nat.reduceAdd, if_true, T]
/-- who has less than wanted at a level -/
theorem lc_full {d A Wt : Nat} {L : Rat} {op : List W} {s0 s1 s2 s3 s4 s7 s8 : Option D} (sL : Smq L) (sx : ∀ x ∈ op, Smq x.2) (sl : ∀ x ∈ op, Smq (L * (x.1 : Rat))) (sw : ∀ x ∈ op, x.1 < 2 ^ 400) (hl : op.length ≤ 50000) :
    eLc [7] (gLoc 7) (iSeq (eLoc 5)) (tVal (eCall 2 f_is_less (aCons (two fIdx (eLoc 7) (eCst (D.int (1 : Int)))) (aCons (eCall 2 f_times (aCons (eLoc 6) (aCons (two fIdx (eLoc 7) (eCst (D.int (0 : Int)))) aNil))) aNil)))) (eLoc 7)
      [s0, s1, s2, s3, s4, some (.lst (op.map wf)), some (fr L), s7, s8] h = .ok (.lst ((op.filter (full L)).map wf)) h := by
  refine eLc_map (u := wf) (p := full L) (v := wf) rfl (fun x hx => ?_) (by omega)
  have T := times_eq (h := h) sL (sw x hx)
  have I := is_less_eq (h := h) (sx x hx) (sl x hx)
  simp only [lcTurn, gLoc_ok, bnd_ok, wipe_cons, wipe_nil, List.set_cons_succ, List.set_cons_zero, tVal_ok, eCall_ok, aCons_ok, aNil_ok, two_ok, eLoc_0, eLoc_s, eCst_ok, List.length_cons, List.length_nil, Nat.reduceAdd, if_true]
  simp only [wf, fIdx_tup0, fIdx_tup1, bnd_ok, List.length_cons, List.length_nil, Nat.reduceAdd, if_true, T, I]
  by_cases c : x.2 < L * (x.1 : Rat)
  · simp [c, full]
  · simp [c, full]
theorem lc_rest {L : Rat} {op : List W} {s0 s1 s2 s3 s4 s6 s7 : Option D} (hl : op.length ≤ 50000) :
    eLc [7] (gLoc 7) (iSeq (eLoc 5)) (tVal (two fNotIn (eLoc 7) (eLoc 8))) (eLoc 7)
      [s0, s1, s2, s3, s4, some (.lst (op.map wf)), s6, s7, some (.lst ((op.filter (full L)).map wf))] h = .ok (.lst ((op.filter fun x => !full L x).map wf)) h := by
  refine eLc_map (u := wf) (p := fun x => !full L x) (v := wf) rfl (fun x hx => ?_) (by omega)
  have e : (wf x ∈ (op.filter (full L)).map wf) ↔ full L x = true := by
    constructor
    · intro m
      obtain ⟨y, hy, e⟩ := List.mem_map.mp m
      rw [wf_inj.mp e] at hy
      exact (List.mem_filter.mp hy).2
    · intro m
      exact List.mem_map.mpr ⟨x, List.mem_filter.mpr ⟨hx, m⟩, rfl⟩
  simp only [lcTurn, gLoc_ok, bnd_ok, wipe_cons, wipe_nil, List.set_cons_succ, List.set_cons_zero, tVal_ok, two_ok, eLoc_0, eLoc_s]
  by_cases c : full L x = true
  · rw [fNotIn_no (h := h) (k := 2) (wf_iK x) (wfs_iK (op.filter (full L))) (by decide) (e.mpr c)]; simp [c]
  · rw [fNotIn_yes (h := h) (k := 2) (wf_iK x) (wfs_iK (op.filter (full L))) (by decide) (fun z => c (e.mp z))]; simp [c]
/-- the loop of the level -/
theorem lev_loop {d A Wt : Nat} (dp : 0 < d) (A1 : 1 ≤ A) (bd : A * (d * Wt) < 2 ^ 300) : ∀ (m n : Nat) (left : Rat) (op : List W) (s0 s1 s6 s7 s8 : Option D), m ≤ n → op.length < m → op.length ≤ 50000 → Ok op → 0 ≤ left → left < msum op → msum op ≤ A → wsum op ≤ Wt → Mul d left → (∀ x ∈ op, Mul d x.2) →
    ∃ l, levGo m left op = some l ∧ (Smq l ∧ l ≤ A ∧ ∃ W', 1 ≤ W' ∧ W' ≤ Wt ∧ Mul (d * W') l) ∧ sWhl n (tVal (two fNe (eLoc 5) (eLst aNil)))
      (bCons (sAsg (gLoc 6) (eCall 2 f_parted (aCons (eLoc 4) (aCons (one fSum (eLc [2, 3] (gTup 2 (gCons (gLoc 2) (gCons (gLoc 3) gNil))) (iSeq (eLoc 5)) tYes (eLoc 2))) aNil))))
      (bCons (sAsg (gLoc 8) (eLc [7] (gLoc 7) (iSeq (eLoc 5)) (tVal (eCall 2 f_is_less (aCons (two fIdx (eLoc 7) (eCst (D.int (1 : Int)))) (aCons (eCall 2 f_times (aCons (eLoc 6) (aCons (two fIdx (eLoc 7) (eCst (D.int (0 : Int)))) aNil))) aNil)))) (eLoc 7)))
      (bCons (sIf (tVal (two fEq (eLoc 8) (eLst aNil))) (bCons (sRet (eLoc 6)) bNil) bNil)
      (bCons (sAsg (gLoc 4) (eCall 2 f_minus (aCons (eLoc 4) (aCons (eCall 1 f_total (aCons (eLc [2, 3] (gTup 2 (gCons (gLoc 2) (gCons (gLoc 3) gNil))) (iSeq (eLoc 8)) tYes (eLoc 3)) aNil)) aNil))))
      (bCons (sAsg (gLoc 5) (eLc [7] (gLoc 7) (iSeq (eLoc 5)) (tVal (two fNotIn (eLoc 7) (eLoc 8))) (eLoc 7))) bNil)))))
      [s0, s1, none, none, some (fr left), some (.lst (op.map wf)), s6, s7, s8] h = .ok (.ret (fr l)) h
  | 0, _, _, _, _, _, _, _, _, _, hm, _, _, _, _, _, _, _, _ => absurd hm (Nat.not_lt_zero _)
  | m + 1, 0, _, _, _, _, _, _, _, hn, _, _, _, _, _, _, _, _, _ => absurd hn (Nat.not_succ_le_zero _)
  | m + 1, n + 1, left, op, s0, s1, s6, s7, s8, hn, hm, hl, ho, h0, hlt, mA, wW, ml, mm => by
    have ne : op ≠ [] := by
      intro e; subst e
      simp only [msum] at hlt
      grind
    have wp := wsum_pos ho ne
    have W1 : 1 ≤ Wt := Nat.le_trans wp wW
    have dW : ∀ W', W' ≤ Wt → d * W' < 2 ^ 400 := fun W' q => Nat.lt_of_le_of_lt (Nat.mul_le_mul_left d q) (Nat.lt_trans (le_A A1 bd) (Nat.pow_lt_pow_right (by decide) (by decide)))
    have d64 : d < 2 ^ 400 := by have := dW 1 W1; rw [Nat.mul_one] at this; exact this
    have Ad : A * d < 2 ^ 400 := by have := mul_le3 W1 bd; rw [Nat.mul_one] at this; exact this
    have smW : ∀ (W' : Nat) (q : Rat), 1 ≤ W' → W' ≤ Wt → Mul (d * W') q → 0 ≤ q → q ≤ A → Smq q := fun W' q h1 h2 m a b => sm_of (Nat.mul_pos dp h1) m a A b (mul_le3 h2 bd) (dW W' h2)
    have sm1 : ∀ (q : Rat), Mul d q → 0 ≤ q → q ≤ A → Smq q := fun q m a b => sm_of dp m a A b Ad d64
    have leA : left ≤ A := by grind
    have sleft := sm1 left ml h0 leA
    have wpos : (0 : Rat) < (wsum op : Rat) := by exact_mod_cast wp
    have hL : left / (wsum op : Rat) * (wsum op : Rat) = left := by grind
    have hl0 : 0 ≤ left / (wsum op : Rat) := by
      refine Classical.byContradiction fun c => ?_
      have c' : left / (wsum op : Rat) < 0 := by grind
      have := Rat.mul_lt_mul_of_pos_right c' wpos
      grind
    have mL : Mul (d * wsum op) (left / (wsum op : Rat)) := ml.part wp
    have P := parted_eq (h := h) sleft wp (by have := dW _ wW; exact Nat.lt_of_le_of_lt (Nat.le_mul_of_pos_left _ dp) this)
    generalize hLe : left / (wsum op : Rat) = L at hL hl0 mL P
    -- shares of single ones
    have lw : ∀ w : Nat, w ≤ wsum op → L * (w : Rat) ≤ A := fun w hw => by
      have q : (w : Rat) ≤ (wsum op : Rat) := by exact_mod_cast hw
      have := Rat.mul_le_mul_of_nonneg_left q hl0
      grind
    have lw0 : ∀ w : Nat, 0 ≤ L * (w : Rat) := fun w => Rat.mul_nonneg hl0 (by exact_mod_cast Nat.zero_le w)
    have sL : Smq L := smW _ _ wp wW mL hl0 (by have := lw 1 wp; grind)
    have sx : ∀ x ∈ op, Smq x.2 := fun x hx => sm1 _ (mm x hx) (ho x hx).2 (by have := most_le ho x hx; grind)
    have sl : ∀ x ∈ op, Smq (L * (x.1 : Rat)) := fun x hx => smW _ _ wp wW (mL.times x.1) (lw0 _) (lw _ (w_le x hx))
    have sw : ∀ x ∈ op, x.1 < 2 ^ 400 := fun x hx => Nat.lt_of_le_of_lt (Nat.le_trans (w_le x hx) (Nat.le_mul_of_pos_left _ dp)) (dW _ wW)
    -- the turn
    have S1 := lc_fst (h := h) (σ := [s0, s1, none, none, some (fr left), some (.lst (op.map wf)), s6, s7, s8]) (e := eLoc 5) (i := 2) (j := 3) (ws := op) rfl hl (by simp) (by simp) (by decide)
    have S2 := fSum_map (h := h) (fun x : W => (x.1 : Int)) op
    rw [sum_w] at S2
    have S3 := lc_full (h := h) (d := 0) (A := 0) (Wt := 0) (s0 := s0) (s1 := s1) (s2 := none) (s3 := none) (s4 := some (fr left)) (s7 := s7) (s8 := s8) sL sx sl sw hl
    have ne2 : D.lst (op.map wf) ≠ D.lst [] := by
      intro e
      have : op.map wf = [] := by injection e
      exact ne (List.map_eq_nil_iff.mp this)
    have C := fNe_yes (h := h) (k := 3) (lst_iK (wfs_iK op)) (show iK 3 (.lst []) = true from rfl) (by decide) ne2
    rw [sWhl_succ]
    simp only [tVal_ok, two_ok, eLoc_0, eLoc_s, bnd_ok, eLst_ok, aNil_ok, List.length_nil, Nat.zero_le, if_true, C, stm_ok, bCons_ok, sAsg_ok, eCall_ok, aCons_ok, one_ok, S1, S2, List.length_cons, Nat.reduceAdd, P, gLoc_ok, calm_ok, List.set_cons_succ, List.set_cons_zero, thn_nxt, S3, sIf_ok]
    unfold levGo
    rw [if_neg ne, hLe]
    by_cases c : op.filter (full L) = []
    · rw [if_pos c]
      refine ⟨L, rfl, ⟨sL, (by have := lw 1 wp; grind), wsum op, wp, wW, mL⟩, ?_⟩
      have c' : D.lst ((op.filter (full L)).map wf) = D.lst [] := by rw [c]; rfl
      rw [fEq_yes (h := h) (k := 3) (lst_iK (wfs_iK (op.filter (full L)))) (show iK 3 (.lst []) = true from rfl) (by decide) c']
      simp only [bnd_ok, if_true, stm_ok, bCons_ok, sRet_ok, eLoc_0, eLoc_s, thn_ret, trn_ret]
    · rw [if_neg c]
      have c' : D.lst ((op.filter (full L)).map wf) ≠ D.lst [] := by
        intro e
        have : (op.filter (full L)).map wf = [] := by injection e
        exact c (List.map_eq_nil_iff.mp this)
      have sp := msum_split (full L) op
      have wsp := wsum_split (full L) op
      have hf : msum (op.filter (full L)) ≤ L * (wsum (op.filter (full L)) : Rat) := msum_lt fun x hx => of_decide_eq_true (List.mem_filter.mp hx).2
      have of1 := ho.filter (full L)
      have mf0 := msum_nonneg of1
      have mf1 : msum (op.filter (full L)) ≤ left := by
        have q : (wsum (op.filter (full L)) : Rat) ≤ (wsum op : Rat) := by exact_mod_cast (by omega : wsum (op.filter (full L)) ≤ wsum op)
        have := Rat.mul_le_mul_of_nonneg_left q hl0
        grind
      have mmf : ∀ x ∈ op.filter (full L), Mul d x.2 := fun x hx => mm x (List.mem_filter.mp hx).1
      have lenf : (op.filter (full L)).length ≤ op.length := List.length_filter_le ..
      have T := total_most (h := h) (σ := [s0, s1, none, none, some (fr left), some (.lst (op.map wf)), some (fr L), s7, some (.lst ((op.filter (full L)).map wf))]) (e := eLoc 8) (i := 2) (j := 3) (ws := op.filter (full L)) (d := d) (A := A) rfl (by omega) (by simp) (by simp) (by decide) of1 dp mmf (by grind) Ad d64
      have mulm : Mul d (msum (op.filter (full L))) := by
        clear T lenf mf1 mf0 hf wsp sp c c' C S3
        have : ∀ l : List W, (∀ x ∈ l, Mul d x.2) → Mul d (msum l) := by
          intro l
          induction l with
          | nil => intro _; exact Mul.zero
          | cons x r ih => intro q; exact (q x (List.mem_cons_self ..)).add (ih fun y hy => q y (List.mem_cons_of_mem _ hy))
        exact this _ mmf
      have M := minus_eq (h := h) sleft (sm1 _ mulm mf0 (by grind)) mf1
      have RR := lc_rest (h := h) (L := L) (op := op) (s0 := s0) (s1 := s1) (s2 := none) (s3 := none) (s4 := some (fr (left - msum (op.filter (full L))))) (s6 := some (fr L)) (s7 := s7) hl
      have len : (op.filter fun x => !full L x).length < m := by
        have : (op.filter (full L)).length + (op.filter fun x => !full L x).length = op.length := by
          have : ∀ l : List W, (l.filter (full L)).length + (l.filter fun x => !full L x).length = l.length := by
            intro l
            induction l with
            | nil => rfl
            | cons x r ih => cases z : full L x <;> simp [z] <;> omega
          exact this op
        have : 0 < (op.filter (full L)).length := List.length_pos_iff.mpr c
        omega
      have wsp' : (wsum op : Rat) = (wsum (op.filter (full L)) : Rat) + (wsum (op.filter fun x => !full L x) : Rat) := by rw [← wsp]; push_cast; rfl
      have h0' : 0 ≤ left - msum (op.filter (full L)) := by grind
      have hlt' : left - msum (op.filter (full L)) < msum (op.filter fun x => !full L x) := by grind
      have lr : (op.filter fun x => !full L x).length ≤ op.length := List.length_filter_le ..
      obtain ⟨l, e1, e2, e3⟩ := lev_loop dp A1 bd m n (left - msum (op.filter (full L))) (op.filter fun x => !full L x) s0 s1 (some (fr L)) s7 (some (.lst ((op.filter (full L)).map wf))) (by omega) len (by omega) (ho.filter _) h0' hlt' (by grind) (by omega) (ml.sub mulm) (fun x hx => mm x (List.mem_filter.mp hx).1)
      refine ⟨l, e1, e2, ?_⟩
      rw [fEq_no (h := h) (k := 3) (lst_iK (wfs_iK (op.filter (full L)))) (show iK 3 (.lst []) = true from rfl) (by decide) c']
      simp only [bnd_ok, Bool.false_eq_true, if_false, stm_ok, bNil_ok, thn_nxt, bCons_ok, sAsg_ok, eCall_ok, aCons_ok, aNil_ok, eLoc_0, eLoc_s, bnd_ok, gLoc_ok, calm_ok, List.set_cons_succ, List.set_cons_zero]
      have T' : (eLc [2, 3] (gTup 2 (gCons (gLoc 2) (gCons (gLoc 3) gNil))) (iSeq (eLoc 8)) tYes (eLoc 3) [s0, s1, none, none, some (fr left), some (.lst (op.map wf)), some (fr L), s7, some (.lst ((op.filter (full L)).map wf))] h).bnd (fun x h => (R.ok [] h : R (List D)).bnd fun xs h => R.ok (x :: xs) h) = R.ok [D.lst ((op.filter (full L)).map fun x => fr x.2)] h := by
        rw [lc_snd (h := h) (e := eLoc 8) (i := 2) (j := 3) (ws := op.filter (full L)) rfl (by omega) (by simp) (by simp) (by decide)]
        rfl
      have T2 : f_total [D.lst ((op.filter (full L)).map fun x => fr x.2)] h = .ok (fr (msum (op.filter (full L)))) h := by
        have T3 := T
        simp only [eCall_ok, aCons_ok, aNil_ok] at T3
        rw [T', bnd_ok] at T3
        simpa using T3
      rw [lc_snd (h := h) (e := eLoc 8) (i := 2) (j := 3) (ws := op.filter (full L)) rfl (by omega) (by simp) (by simp) (by decide)]
      simp only [bnd_ok, List.length_cons, List.length_nil, Nat.reduceAdd, if_true, T2, M, stm_ok, gLoc_ok, calm_ok, List.set_cons_succ, List.set_cons_zero, thn_nxt, bCons_ok, sAsg_ok, RR, bNil_ok, trn_nxt]
      exact e3
/-- THE LEVEL of the text -/
def lvD : Option Rat → D
  | none => .non
  | some l => fr l
theorem mul_lt300 {A d Wt : Nat} (W1 : 1 ≤ Wt) (b : A * (d * Wt) < 2 ^ 300) : A * d < 2 ^ 400 := by
  have := mul_le3 W1 b
  rw [Nat.mul_one] at this
  exact this
theorem Fits.msm {d A Wt : Nat} {a : Rat} {ws : List W} (f : Fits d A Wt a ws) : Smq (msum ws) := by
  refine f.sm1 ?_ (msum_nonneg f.ok) f.mA
  have : ∀ l : List W, (∀ x ∈ l, Mul d x.2) → Mul d (msum l) := by
    intro l
    induction l with
    | nil => intro _; exact Mul.zero
    | cons x r ih => intro q; exact (q x (List.mem_cons_self ..)).add (ih fun y hy => q y (List.mem_cons_of_mem _ hy))
  exact this _ f.wm
theorem level_eq {d A Wt : Nat} {a : Rat} {ws : List W} (f : Fits d A Wt a ws) : f_level_of [fr a, .lst (ws.map wf)] h = .ok (lvD (lev a ws)) h ∧ ∀ l, lev a ws = some l → (Smq l ∧ l ≤ A ∧ ∃ W', 1 ≤ W' ∧ W' ≤ Wt ∧ Mul (d * W') l) := by
  have d64 : d < 2 ^ 400 := by have := f.dW (Nat.le_trans (by decide : 1 ≤ 1) f.W1); rw [Nat.mul_one] at this; exact this
  have Ad := mul_lt300 f.W1 f.bd
  have e1 : entry 9 [fr a, .lst (ws.map wf)] = [some (fr a), some (.lst (ws.map wf)), none, none, none, none, none, none, none] := rfl
  have T := total_most (h := h) (σ := [some (fr a), some (.lst (ws.map wf)), none, none, none, none, none, none, none]) (e := eLoc 1) (i := 2) (j := 3) (ws := ws) (d := d) (A := A) rfl f.len (by simp) (by simp) (by decide) f.ok f.dp f.wm f.mA Ad d64
  have I := is_less_eq (h := h) f.sa f.msm
  simp only [f_level_of, b_level_of, mkFn_ok, List.length_cons, List.length_nil, Nat.reduceAdd, if_true, e1]
  rw [bCons_ok, sIf_ok, tNot_ok, tVal_ok, eCall_ok, aCons_ok, eLoc_0, bnd_ok, aCons_ok, T]
  simp only [bnd_ok, aNil_ok, List.length_cons, List.length_nil, Nat.reduceAdd, if_true, I, stm_ok]
  by_cases c : a < msum ws
  · obtain ⟨l, l1, l2, l3⟩ := lev_loop (h := h) f.dp f.A1 f.bd (ws.length + 1) fuel a ws (some (fr a)) (some (.lst (ws.map wf))) none none none
      (by have : (50001 : Nat) ≤ fuel := by decide
          have := f.len; omega) (by omega) f.len f.ok f.a0 c f.mA f.wW f.am f.wm
    have e : lev a ws = some l := by unfold lev; rw [if_pos c, l1]
    rw [e]
    refine ⟨?_, fun l' q => by cases q; exact l2⟩
    simp only [decide_eq_true c, Bool.not_true, Bool.false_eq_true, if_false, bNil_ok, thn_nxt, bCons_ok, sPar_ok, eLoc_0, eLoc_s, stm_ok, one_ok, bnd_ok, fList_lst, List.set_cons_succ, List.set_cons_zero, l3, thn_ret, fnEnd_ret, lvD]
  · rw [lev_none c]
    refine ⟨?_, fun l q => by cases q⟩
    simp only [decide_eq_false c, Bool.not_false, if_true, bCons_ok, sRet_ok, eCst_ok, stm_ok, thn_ret, fnEnd_ret, lvD]
theorem share_sm {d A Wt : Nat} {a : Rat} {ws : List W} (f : Fits d A Wt a ws) {l : Rat} (sl : Smq l ∧ l ≤ A ∧ ∃ W', 1 ≤ W' ∧ W' ≤ Wt ∧ Mul (d * W') l) {x : W} (hx : x ∈ ws) : Smq (l * (x.1 : Rat)) ∧ x.1 < 2 ^ 400 := by
  obtain ⟨s, lA, W', h1, h2, m⟩ := sl
  have wx : x.1 ≤ Wt := Nat.le_trans (w_le x hx) f.wW
  have xb : x.1 < 2 ^ 90 := Nat.lt_of_le_of_lt wx f.Wb
  refine ⟨sm_of (B := A * x.1) (Nat.mul_pos f.dp h1) (m.times x.1) (Rat.mul_nonneg s.nn (by exact_mod_cast Nat.zero_le _)) ?_ ?_ (f.dW h2), Nat.lt_trans xb (Nat.pow_lt_pow_right (by decide) (by decide))⟩
  · push_cast
    exact Rat.mul_le_mul_of_nonneg_right lA (by exact_mod_cast Nat.zero_le _)
  · have q : A * x.1 * (d * W') = A * (d * W') * x.1 := by rw [Nat.mul_assoc, Nat.mul_comm x.1, ← Nat.mul_assoc]
    rw [q]
    have q2 : A * (d * W') < 2 ^ 300 := Nat.lt_of_le_of_lt (Nat.mul_le_mul_left A (Nat.mul_le_mul_left d h2)) f.bd
    exact Nat.lt_trans (mul_lt q2 xb) (Nat.pow_lt_pow_right (by decide) (by decide))
theorem parts_eq {d A Wt : Nat} {a : Rat} {ws : List W} (f : Fits d A Wt a ws) : f_parts_of [fr a, .lst (ws.map wf)] h = .ok (.lst (ws.map fun x => fr (share (lev a ws) x))) h := by
  obtain ⟨L, sl⟩ := level_eq (h := h) f
  have e1 : entry 5 [fr a, .lst (ws.map wf)] = [some (fr a), some (.lst (ws.map wf)), none, none, none] := rfl
  simp only [f_parts_of, b_parts_of, mkFn_ok, List.length_cons, List.length_nil, Nat.reduceAdd, if_true, e1, bCons_ok, sAsg_ok, eCall_ok, aCons_ok, aNil_ok, eLoc_0, eLoc_s, bnd_ok, L, stm_ok, gLoc_ok, calm_ok, List.set_cons_succ, List.set_cons_zero, thn_nxt, sRet_ok]
  rw [eLc_all (u := wf) (v := fun x => fr (share (lev a ws) x)) (xs := ws) (h1 := h) rfl (fun x hx => ?_) (by have := f.len; omega)]
  · rfl
  · cases e : lev a ws with
    | none => rfl
    | some l =>
      have S := share_sm f (sl l e) hx
      have T := times_eq (h := h) (sl l e).1 S.2
      have M := lesser_eq (h := h) (f.sx hx) S.1
      simp only [lcTurn, wf, gTup_ok, List.length_cons, List.length_nil, Nat.reduceAdd, if_true, gCons_ok, gLoc_ok, bnd_ok, gNil_ok, wipe_cons, wipe_nil, List.set_cons_succ, List.set_cons_zero, tYes_ok, eIf_ok, tVal_ok, one_ok, eLoc_0, eLoc_s, lvD, eCall_ok, aCons_ok, aNil_ok]
      have z : fIsN (fr l) h = .ok (.bl false) h := rfl
      simp only [z, bnd_ok, Bool.false_eq_true, if_false, List.length_cons, List.length_nil, Nat.reduceAdd, if_true, T, M, calm_ok]
      rfl
end
end IP

namespace IP
open PySem (Str PyData)
open Sh WF
/-! ### wants of whole numbers -/
abbrev WI := Nat × Nat
def wi (x : WI) : D := .tup [.int (x.1 : Int), .int (x.2 : Int)]
def toW (x : WI) : W := (x.1, (x.2 : Rat))
structure Val (a : Nat) (ws : List WI) : Prop where
  am : a ≤ 9999
  len : ws.length ≤ 12
  ok : ∀ x ∈ ws, 1 ≤ x.1 ∧ x.1 ≤ 100 ∧ x.2 ≤ 999
theorem msum_toW : ∀ ws : List WI, msum (ws.map toW) = (((ws.map (·.2)).sum : Nat) : Rat)
  | [] => rfl
  | x :: r => by
    simp only [List.map_cons, msum, List.sum_cons, msum_toW r, toW]
    push_cast; rfl
theorem wsum_toW : ∀ ws : List WI, wsum (ws.map toW) = (ws.map (·.1)).sum
  | [] => rfl
  | x :: r => by simp only [List.map_cons, wsum, List.sum_cons, wsum_toW r, toW]
theorem sum_le {k : Nat} : ∀ l : List Nat, (∀ x ∈ l, x ≤ k) → l.sum ≤ k * l.length
  | [], _ => by simp
  | x :: r, h => by
    have h1 := h x (List.mem_cons_self ..)
    have h2 := sum_le r fun y hy => h y (List.mem_cons_of_mem _ hy)
    simp only [List.sum_cons, List.length_cons, Nat.mul_add]; omega
theorem Val.most {a : Nat} {ws : List WI} (v : Val a ws) : (ws.map (·.2)).sum ≤ 11988 := by
  have := sum_le (k := 999) (ws.map (·.2)) fun y hy => by
    obtain ⟨x, hx, rfl⟩ := List.mem_map.mp hy
    exact (v.ok x hx).2.2
  have l := v.len
  rw [List.length_map] at this
  omega
theorem Val.wt {a : Nat} {ws : List WI} (v : Val a ws) : (ws.map (·.1)).sum ≤ 1200 := by
  have := sum_le (k := 100) (ws.map (·.1)) fun y hy => by
    obtain ⟨x, hx, rfl⟩ := List.mem_map.mp hy
    exact (v.ok x hx).2.1
  have l := v.len
  rw [List.length_map] at this
  omega
theorem Val.okW {a : Nat} {ws : List WI} (v : Val a ws) : Ok (ws.map toW) := fun y hy => by
  obtain ⟨x, hx, rfl⟩ := List.mem_map.mp hy
  exact ⟨(v.ok x hx).1, by show (0 : Rat) ≤ ((x.2 : Nat) : Rat); exact_mod_cast Nat.zero_le _⟩
theorem Val.fits {a : Nat} {ws : List WI} (v : Val a ws) : Fits 1 20000 1200 (a : Rat) (ws.map toW) where
  ok := v.okW
  dp := by decide
  A1 := by decide
  W1 := by decide
  bd := by decide
  a0 := by exact_mod_cast Nat.zero_le _
  aA := by have := v.am; exact_mod_cast (by omega : a ≤ 20000)
  mA := by rw [msum_toW]; have := v.most; exact_mod_cast (by omega : (ws.map (·.2)).sum ≤ 20000)
  wW := by rw [wsum_toW]; exact v.wt
  Wb := by decide
  am := Mul.nat
  wm := fun y hy => by
    obtain ⟨x, hx, rfl⟩ := List.mem_map.mp hy
    exact Mul.nat
  len := by rw [List.length_map]; have := v.len; omega
theorem fr_nat (n : Nat) : fr (n : Rat) = .tup [.int (n : Int), .int 1] := by
  unfold fr
  simp
theorem fr_int (n : Int) : fr (n : Rat) = .tup [.int n, .int 1] := by
  unfold fr
  simp
theorem wf_toW (x : WI) : wf (toW x) = .tup [.int (x.1 : Int), .tup [.int (x.2 : Int), .int 1]] := by
  unfold wf toW
  rw [fr_nat]
theorem wi_inj {x y : WI} : wi x = wi y ↔ x = y := by
  constructor
  · intro h
    simp only [wi, D.tup.injEq, List.cons.injEq, D.int.injEq, and_true] at h
    exact Prod.ext (by exact_mod_cast h.1) (by exact_mod_cast h.2)
  · intro h; rw [h]
theorem wi_iK (x : WI) : iK 1 (wi x) = true := rfl
theorem wis_iK (xs : List WI) : iKs 1 (xs.map wi) = true := by
  rw [iKs_all]
  intro d hd
  obtain ⟨x, _, rfl⟩ := List.mem_map.mp hd
  exact wi_iK x
section
variable {h : Hp}
theorem is_whole_eq {i a b : Int} : f_is_whole [.int i, .int a, .int b] h = .ok (.bl (decide (a ≤ i ∧ i ≤ b))) h := by
  have e1 : entry 3 [D.int i, .int a, .int b] = [some (.int i), some (.int a), some (.int b)] := rfl
  simp only [f_is_whole, b_is_whole, mkFn_ok, List.length_cons, List.length_nil, Nat.reduceAdd, if_true, e1, bCons_ok, sRet_ok, eAnd_ok, one_ok, eLoc_0, eLoc_s, bnd_ok, fIs_int, isTy_ii, isTy_bi, eNot_ok, Bool.not_false, eChain_ok, fCmp_int]
  by_cases c : a ≤ i
  · rw [decide_eq_true c]
    simp only [bnd_ok, stm_ok, thn_ret, fnEnd_ret, c, true_and]
  · rw [decide_eq_false c]
    simp only [bnd_ok, stm_ok, thn_ret, fnEnd_ret, c, false_and, decide_false]
theorem look_whole_eq {i a b : Int} (q : a ≤ i ∧ i ≤ b) : f_look_whole [.int i, .int a, .int b] h = .ok .non h := by
  have e1 : entry 3 [D.int i, .int a, .int b] = [some (.int i), some (.int a), some (.int b)] := rfl
  simp only [f_look_whole, b_look_whole, mkFn_ok, List.length_cons, List.length_nil, Nat.reduceAdd, if_true, e1, bCons_ok, sIf_ok, tNot_ok, tVal_ok, eCall_ok, aCons_ok, aNil_ok, eLoc_0, eLoc_s, bnd_ok, is_whole_eq, decide_eq_true q, Bool.not_true, stm_ok, Bool.false_eq_true, if_false, bNil_ok, thn_nxt, fnEnd_nxt]
theorem are_wants_eq {a : Nat} {ws : List WI} (v : Val a ws) : f_are_wants [.lst (ws.map wi)] h = .ok (.bl true) h := by
  have e1 : entry 4 [D.lst (ws.map wi)] = [some (.lst (ws.map wi)), none, none, none] := rfl
  have L1 : eLc [1] (gLoc 1) (iSeq (eLoc 0)) tYes (eAnd (one (fIs Ty.tuple) (eLoc 1)) (two fEq (one fLen (eLoc 1)) (eCst (D.int (2 : Int))))) [some (.lst (ws.map wi)), none, none, none] h = .ok (.lst (ws.map fun _ => D.bl true)) h :=
    eLc_all (u := wi) rfl (fun x hx => by simp [lcTurn, wi]) (by have := v.len; omega)
  have L2 : eLc [2, 3] (gTup 2 (gCons (gLoc 2) (gCons (gLoc 3) gNil))) (iSeq (eLoc 0)) tYes (eAnd (eCall 3 f_is_whole (aCons (eLoc 2) (aCons (eCst (D.int (1 : Int))) (aCons (eCst (D.int (100 : Int))) aNil)))) (eCall 3 f_is_whole (aCons (eLoc 3) (aCons (eCst (D.int (0 : Int))) (aCons (eCst (D.int (999 : Int))) aNil))))) [some (.lst (ws.map wi)), none, none, none] h = .ok (.lst (ws.map fun _ => D.bl true)) h :=
    eLc_all (u := wi) rfl (fun x hx => by
      have q := v.ok x hx
      have q1 : (1 : Int) ≤ (x.1 : Int) ∧ (x.1 : Int) ≤ 100 := by omega
      have q2 : (0 : Int) ≤ (x.2 : Int) ∧ (x.2 : Int) ≤ 999 := by omega
      simp only [lcTurn, wi, gTup_ok, List.length_cons, List.length_nil, Nat.reduceAdd, if_true, gCons_ok, gLoc_ok, bnd_ok, gNil_ok, wipe_cons, wipe_nil, List.set_cons_succ, List.set_cons_zero, tYes_ok, eAnd_ok, eCall_ok, aCons_ok, aNil_ok, eLoc_0, eLoc_s, eCst_ok, is_whole_eq, decide_eq_true q1, decide_eq_true q2, calm_ok]) (by have := v.len; omega)
  have A := fAll_map (h := h) (fun _ : WI => true) ws
  have at' : ws.all (fun _ => true) = true := by simp
  rw [at'] at A
  have l12 : ¬ (12 : Int) < ((ws.map wi).length : Int) := by rw [List.length_map]; have := v.len; omega
  simp only [f_are_wants, b_are_wants, mkFn_ok, List.length_cons, List.length_nil, Nat.reduceAdd, if_true, e1, bCons_ok, sIf_ok, tOr_ok, tNot_ok, tVal_ok, one_ok, two_ok, eLoc_0, bnd_ok, fIs_lst, isTy_ll, Bool.not_true, Bool.false_eq_true, if_false, fLen_lst, eCst_ok, fCmp_int, decide_eq_false l12, stm_ok, bNil_ok, thn_nxt, L1, L2, A, sRet_ok, thn_ret, fnEnd_ret]
theorem look_all_eq {a : Nat} {ws : List WI} (v : Val a ws) : f_look_all [.int a, .lst (ws.map wi)] h = .ok .non h := by
  have e1 : entry 2 [D.int a, D.lst (ws.map wi)] = [some (.int a), some (.lst (ws.map wi))] := rfl
  have q : (0 : Int) ≤ (a : Int) ∧ (a : Int) ≤ 9999 := by have := v.am; omega
  simp only [f_look_all, b_look_all, mkFn_ok, List.length_cons, List.length_nil, Nat.reduceAdd, if_true, e1, bCons_ok, sEx_ok, eCall_ok, aCons_ok, aNil_ok, eLoc_0, eLoc_s, eCst_ok, bnd_ok, look_whole_eq q, stm_ok, thn_nxt, sIf_ok, tNot_ok, tVal_ok, are_wants_eq v, Bool.not_true, Bool.false_eq_true, if_false, bNil_ok, fnEnd_nxt]
theorem fractions_eq {ws : List WI} (hl : ws.length ≤ 12) : f_fractions_of [.lst (ws.map wi)] h = .ok (.lst ((ws.map toW).map wf)) h := by
  have e1 : entry 3 [D.lst (ws.map wi)] = [some (.lst (ws.map wi)), none, none] := rfl
  have L : eLc [1, 2] (gTup 2 (gCons (gLoc 1) (gCons (gLoc 2) gNil))) (iSeq (eLoc 0)) tYes (eTup (aCons (eLoc 1) (aCons (eTup (aCons (eLoc 2) (aCons (eCst (D.int (1 : Int))) aNil))) aNil))) [some (.lst (ws.map wi)), none, none] h = .ok (.lst (ws.map fun x => wf (toW x))) h :=
    eLc_all (u := wi) rfl (fun x hx => by simp [lcTurn, wi, wf_toW]) (by omega)
  simp only [f_fractions_of, b_fractions_of, mkFn_ok, List.length_cons, List.length_nil, Nat.reduceAdd, if_true, e1, bCons_ok, sRet_ok, L, stm_ok, thn_ret, fnEnd_ret, List.map_map]
  rfl
/-- what is told of an amount -/
abbrev lv (a : Nat) (ws : List WI) : Option Rat := lev (a : Rat) (ws.map toW)
abbrev sh (a : Nat) (ws : List WI) (x : WI) : Rat := share (lv a ws) (toW x)
theorem shares_eq {a : Nat} {ws : List WI} (v : Val a ws) : f_shares [.int a, .lst (ws.map wi)] h = .ok (.lst (ws.map fun x => fr (sh a ws x))) h := by
  have e1 : entry 2 [D.int a, D.lst (ws.map wi)] = [some (.int a), some (.lst (ws.map wi))] := rfl
  have P := parts_eq (h := h) v.fits
  rw [fr_nat, List.map_map (g := fun x => fr _)] at P
  simp only [f_shares, b_shares, mkFn_ok, List.length_cons, List.length_nil, Nat.reduceAdd, Nat.reduceLeDiff, if_true, e1, bCons_ok, sEx_ok, eCall_ok, aCons_ok, aNil_ok, eTup_ok, eLoc_0, eLoc_s, eCst_ok, bnd_ok, look_all_eq v, stm_ok, thn_nxt, sRet_ok, fractions_eq v.len, P, thn_ret, fnEnd_ret]
  rfl
theorem level_eq' {a : Nat} {ws : List WI} (v : Val a ws) : f_level [.int a, .lst (ws.map wi)] h = .ok (lvD (lv a ws)) h := by
  have e1 : entry 2 [D.int a, D.lst (ws.map wi)] = [some (.int a), some (.lst (ws.map wi))] := rfl
  have P := (level_eq (h := h) v.fits).1
  rw [fr_nat] at P
  simp only [f_level, b_level, mkFn_ok, List.length_cons, List.length_nil, Nat.reduceAdd, Nat.reduceLeDiff, if_true, e1, bCons_ok, sEx_ok, eCall_ok, aCons_ok, aNil_ok, eTup_ok, eLoc_0, eLoc_s, eCst_ok, bnd_ok, look_all_eq v, stm_ok, thn_nxt, sRet_ok, fractions_eq v.len, P, thn_ret, fnEnd_ret]
end
/-! ### facts of shares -/
theorem lsum_F (l : Rat) : ∀ ws : List W, lsum (ws.map (got l)) = F l ws
  | [] => rfl
  | x :: r => by simp only [List.map_cons, lsum, F, lsum_F l r]
section
variable {a : Nat} {ws : List WI} (v : Val a ws)
include v
theorem sh_sum : lsum (ws.map (sh a ws)) = if (a : Rat) < msum (ws.map toW) then (a : Rat) else msum (ws.map toW) := by
  have e : ws.map (sh a ws) = (ws.map toW).map (share (lv a ws)) := by rw [List.map_map]; rfl
  rw [e]
  by_cases c : (a : Rat) < msum (ws.map toW)
  · obtain ⟨l, h1, h2, h3⟩ := lev_some v.okW v.fits.a0 c
    have h1' : lv a ws = some l := h1
    rw [h1', if_pos c]
    show lsum ((ws.map toW).map (got l)) = _
    rw [lsum_F, h3]
  · have h1' : lv a ws = none := lev_none c
    rw [h1', if_neg c]
    exact lsum_msum _
theorem sh_sm {x : WI} (hx : x ∈ ws) : Smq (sh a ws x) := by
  have f := v.fits
  have hx' : toW x ∈ ws.map toW := List.mem_map.mpr ⟨x, hx, rfl⟩
  cases e : lv a ws with
  | none => show Smq (share (lv a ws) (toW x)); rw [e]; exact f.sx hx'
  | some l =>
    have S := share_sm f ((level_eq (h := []) f).2 l e) hx'
    show Smq (share (lv a ws) (toW x)); rw [e]
    show Smq (got l (toW x))
    unfold got
    split
    · exact S.1
    · exact f.sx hx'
theorem sh_le {x : WI} : sh a ws x ≤ (x.2 : Rat) := by
  cases e : lv a ws with
  | none => show share (lv a ws) (toW x) ≤ _; rw [e]; exact Rat.le_refl
  | some l => show share (lv a ws) (toW x) ≤ _; rw [e]; exact got_le l (toW x)
/-- one number of which all shares are multiples -/
theorem sh_mul : ∃ d, 0 < d ∧ d ≤ 1200 ∧ ∀ x ∈ ws, Mul d (sh a ws x) := by
  have f := v.fits
  cases e : lv a ws with
  | none => exact ⟨1, by decide, by decide, fun x hx => by show Mul 1 (share (lv a ws) (toW x)); rw [e]; exact Mul.nat⟩
  | some l =>
    obtain ⟨_, _, W', h1, h2, m⟩ := (level_eq (h := []) f).2 l e
    rw [Nat.one_mul] at m
    refine ⟨W', h1, h2, fun x hx => ?_⟩
    show Mul W' (share (lv a ws) (toW x)); rw [e]
    show Mul W' (got l (toW x))
    unfold got
    split
    · exact m.times _
    · exact Mul.nat
end
section
variable {h : Hp} {a : Nat} {ws : List WI} (v : Val a ws)
include v
theorem unshared_eq : f_unshared [.int a, .lst (ws.map wi)] h = .ok (fr ((a : Rat) - lsum (ws.map (sh a ws)))) h := by
  have e1 : entry 2 [D.int a, D.lst (ws.map wi)] = [some (.int a), some (.lst (ws.map wi))] := rfl
  have P := parts_eq (h := h) v.fits
  rw [fr_nat, List.map_map (g := fun x => fr _)] at P
  have e2 : ((fun x => fr (share (lev (a : Rat) (ws.map toW)) x)) ∘ toW) = fr ∘ sh a ws := rfl
  rw [e2, ← List.map_map] at P
  have fs := v.fits
  have le : lsum (ws.map (sh a ws)) ≤ (a : Rat) ∧ 0 ≤ lsum (ws.map (sh a ws)) ∧ lsum (ws.map (sh a ws)) ≤ 20000 := by
    have h1 := sh_sum v
    have h2 := msum_nonneg v.okW
    have h3 := fs.mA
    have h4 := fs.a0
    have h5 := fs.aA
    split at h1 <;> refine ⟨?_, ?_, ?_⟩ <;> grind
  obtain ⟨d, d0, d1, dm⟩ := sh_mul v
  have T := total_sum (h := h) (qs := ws.map (sh a ws)) (B := 20000) d0 (fun q hq => by
    obtain ⟨x, hx, rfl⟩ := List.mem_map.mp hq
    exact ⟨(sh_sm v hx).nn, dm x hx⟩) le.2.2 (Nat.lt_of_le_of_lt (Nat.mul_le_mul_left 20000 d1) (by decide)) (Nat.lt_of_le_of_lt d1 (by decide))
  have mm : Mul d (lsum (ws.map (sh a ws))) := by
    have : ∀ l : List WI, (∀ x ∈ l, Mul d (sh a ws x)) → Mul d (lsum (l.map (sh a ws))) := by
      intro l
      induction l with
      | nil => intro _; exact Mul.zero
      | cons x r ih => intro q; exact (q x (List.mem_cons_self ..)).add (ih fun y hy => q y (List.mem_cons_of_mem _ hy))
    exact this ws dm
  have sT : Smq (lsum (ws.map (sh a ws))) := sm_of d0 mm le.2.1 20000 le.2.2 (Nat.lt_of_le_of_lt (Nat.mul_le_mul_left 20000 d1) (by decide)) (Nat.lt_of_le_of_lt d1 (by decide))
  have M := minus_eq (h := h) fs.sa sT le.1
  rw [fr_nat] at M
  simp only [f_unshared, b_unshared, mkFn_ok, List.length_cons, List.length_nil, Nat.reduceAdd, Nat.reduceLeDiff, if_true, e1, bCons_ok, sEx_ok, eCall_ok, aCons_ok, aNil_ok, eLoc_0, eLoc_s, bnd_ok, look_all_eq v, stm_ok, thn_nxt, sRet_ok, eIf_ok, tVal_ok, two_ok, eLst_ok, Nat.zero_le]
  by_cases c : ws = []
  · subst c
    rw [fNe_no (h := h) (k := 2) (show iK 2 (.lst (([] : List WI).map wi)) = true from rfl) (show iK 2 (.lst []) = true from rfl) (by decide) rfl]
    simp only [bnd_ok, Bool.false_eq_true, if_false, eTup_ok, aCons_ok, eLoc_0, eCst_ok, aNil_ok, List.length_cons, List.length_nil, Nat.reduceAdd, Nat.reduceLeDiff, if_true, stm_ok, thn_ret, fnEnd_ret]
    have : (a : Rat) - lsum (([] : List WI).map (sh a [])) = (a : Rat) := by simp only [List.map_nil, lsum]; grind
    rw [this, fr_nat]
  · have c' : D.lst (ws.map wi) ≠ .lst [] := by
      intro e
      have : ws.map wi = [] := by injection e
      exact c (List.map_eq_nil_iff.mp this)
    rw [fNe_yes (h := h) (k := 2) (lst_iK (wis_iK ws)) (show iK 2 (.lst []) = true from rfl) (by decide) c']
    simp only [bnd_ok, if_true, eCall_ok, aCons_ok, eTup_ok, eLoc_0, eLoc_s, eCst_ok, aNil_ok, List.length_cons, List.length_nil, Nat.reduceAdd, Nat.reduceLeDiff, fractions_eq v.len, P, T, M, stm_ok, thn_ret, fnEnd_ret]
end
end IP

namespace IP
open PySem (Str PyData)
open Sh WF
/-! ### draws -/
def scr (ns : List Int) : D := .scr (ns.map D.int)
theorem eqD_scr {xs : List D} {y : D} : eqD (.scr xs) y = eqD (.lst xs) y := rfl
theorem ints_iK (ns : List Int) : iKs 0 (ns.map D.int) = true := by
  rw [iKs_all]
  intro d hd
  obtain ⟨x, _, rfl⟩ := List.mem_map.mp hd
  rfl
theorem scr_ne {ns : List Int} {h : Hp} : fNe (scr ns) (.lst []) h = .ok (.bl (!ns.isEmpty)) h := by
  cases ns with
  | nil => exact fNe_no (h := h) (k := 1) (x := .lst []) (show iK 1 (.lst []) = true from rfl) (show iK 1 (.lst []) = true from rfl) (by decide) rfl
  | cons i r =>
    refine fNe_yes (h := h) (k := 1) (x := .lst ((i :: r).map D.int)) (lst_iK (ints_iK _)) (show iK 1 (.lst []) = true from rfl) (by decide) ?_
    intro e
    injection e with e
    cases e
theorem pick_loop {a b c d g : Option D} : ∀ (n : Nat) (rest turn : Int), turn.toNat < n → ∃ r t, ∀ h, sWhl n (tAnd (tVal (two fGt (eLoc 4) (eCst (D.int (0 : Int))))) (tVal (two fGt (eLoc 5) (eCst (D.int (0 : Int))))))
    (bCons (sPar 4 5 (two fFdv (eLoc 4) (eCst (D.int (840 : Int)))) (two fSub (eLoc 5) (eCst (D.int (1 : Int))))) bNil) [a, b, c, d, some (.int rest), some (.int turn), g] h = .ok (.nxt [a, b, c, d, some (.int r), some (.int t), g]) h
  | 0, _, _, q => absurd q (Nat.not_lt_zero _)
  | n + 1, rest, turn, q => by
    by_cases c1 : 0 < rest
    · by_cases c2 : 0 < turn
      · obtain ⟨r, t, e⟩ := pick_loop (a := a) (b := b) (c := c) (d := d) (g := g) n (rest / 840) (turn - 1) (by omega)
        refine ⟨r, t, fun h => ?_⟩
        rw [sWhl_succ]
        simp only [tAnd_ok, tVal_ok, two_ok, eLoc_0, eLoc_s, eCst_ok, bnd_ok, fCmp_int]
        have F := fFdv_int (h := h) (i := rest) (j := 840) (by decide) (by decide)
        simp only [decide_eq_true c1, decide_eq_true c2, if_true, bnd_ok, stm_ok, bCons_ok, sPar_ok, two_ok, eLoc_0, eLoc_s, eCst_ok, F, fSub_int, List.set_cons_succ, List.set_cons_zero, thn_nxt, bNil_ok, trn_nxt, e]
      · exact ⟨rest, turn, fun h => by rw [sWhl_succ]; simp only [tAnd_ok, tVal_ok, two_ok, eLoc_0, eLoc_s, eCst_ok, bnd_ok, fCmp_int, decide_eq_true c1, decide_eq_false c2, if_true, bnd_ok, stm_ok, Bool.false_eq_true, if_false]⟩
    · exact ⟨rest, turn, fun h => by rw [sWhl_succ]; simp only [tAnd_ok, tVal_ok, two_ok, eLoc_0, eLoc_s, eCst_ok, bnd_ok, fCmp_int, decide_eq_false c1, bnd_ok, stm_ok, Bool.false_eq_true, if_false]⟩
theorem small_const {i : Int} (h : small i = true) (j : Int) : mulOk i j = true ∧ mulOk j i = true := by unfold mulOk; rw [h]; simp
theorem mulOk_l {i j : Int} (h : small i = true) : mulOk i j = true := (small_const h j).1
theorem mulOk_r {i j : Int} (h : small j = true) : mulOk i j = true := (small_const h i).2
theorem pick_eq (ns : List Int) (hns : ns.length ≤ 63) (k m : Nat) (hm : 0 < m) (hk : k < 2 ^ 64) : ∃ v : Nat, v < m ∧ ∀ h, f__law_pick [scr ns, .int (k : Int), .int (m : Int)] h = .ok (.int (v : Int)) h := by
  have mp : (0 : Int) < (m : Int) := by omega
  have e1 : ∀ x, entry 7 [x, D.int (k : Int), D.int (m : Int)] = [some x, some (.int k), some (.int m), none, none, none, none] := fun _ => rfl
  -- the cell
  have cell : ∃ c : Int, ∀ h, eIf (tVal (two fNe (eLoc 0) (eLst aNil))) (two fIdx (eLoc 0) (two fMod (eLoc 1) (one fLen (eLoc 0)))) (eCst (D.int (0 : Int))) [some (scr ns), some (.int (k : Int)), some (.int m), none, none, none, none] h = .ok (.int c) h := by
    cases ns with
    | nil =>
      refine ⟨0, fun h => ?_⟩
      simp only [eIf_ok, tVal_ok, two_ok, eLoc_0, eLst_ok, aNil_ok, bnd_ok, List.length_nil, Nat.zero_le, if_true, scr_ne, List.isEmpty_nil, Bool.not_true, Bool.false_eq_true, if_false, eCst_ok]
    | cons i r =>
      have lp : (0 : Int) < (((i :: r).map D.int).length : Int) := by rw [List.length_map, List.length_cons]; omega
      have hx : k % (i :: r).length < (i :: r).length := Nat.mod_lt _ (by simp)
      refine ⟨(i :: r)[k % (i :: r).length], fun h => ?_⟩
      have M := fMod_int (h := h) (i := (k : Int)) lp
      have ix : ((k : Int) % (((i :: r).map D.int).length : Int)) = ((k % (i :: r).length : Nat) : Int) := by rw [List.length_map]; push_cast; rfl
      have I : fIdx (scr (i :: r)) (.int ((k % (i :: r).length : Nat) : Int)) h = .ok (.int (i :: r)[k % (i :: r).length]) h := by
        show (if 0 ≤ ((k % (i :: r).length : Nat) : Int) then opt ((i :: r).map D.int)[((k % (i :: r).length : Nat) : Int).toNat]? fun d => R.ok d h else R.no) = _
        rw [if_pos (by omega), Int.toNat_natCast, List.getElem?_map, List.getElem?_eq_getElem hx]
        rfl
      have L : fLen (scr (i :: r)) h = .ok (.int (((i :: r).map D.int).length : Int)) h := rfl
      simp only [eIf_ok, tVal_ok, two_ok, one_ok, eLoc_0, eLoc_s, eLst_ok, aNil_ok, bnd_ok, List.length_nil, Nat.zero_le, if_true, scr_ne, List.isEmpty_cons, Bool.not_false, L, M]
      rw [ix, I]
  obtain ⟨c, hc⟩ := cell
  have lenE : ∀ h, fLen (scr ns) h = .ok (.int (ns.length : Int)) h := fun h => by
    show R.ok (D.int ((ns.map D.int).length : Int)) h = _
    rw [List.length_map]
  have mx : (0 : Int) < (if (1 : Int) > (ns.length : Int) then (1 : Int) else (ns.length : Int)) := by split <;> omega
  have mxb : bits (if (1 : Int) > (ns.length : Int) then (1 : Int) else (ns.length : Int)) < 9000 := by
    split
    · decide
    · exact Nat.lt_trans (bits_of (k := 7) (by omega) (by decide)) (by decide)
  have tb : ((k : Int) / (if (1 : Int) > (ns.length : Int) then (1 : Int) else (ns.length : Int))).toNat < fuel := by
    have h1 : (k : Int) / (if (1 : Int) > (ns.length : Int) then (1 : Int) else (ns.length : Int)) ≤ k := Int.ediv_le_self _ (by omega)
    have h2 : k < fuel := Nat.lt_trans hk (by decide)
    omega
  have P18 : ∀ h, fPow (.int 10) (.int 18) h = .ok (.int 1000000000000000000) h := fun h => rfl
  have F18 : ∀ h, fFdv (.int c) (.int 1000000000000000000) h = .ok (.int (c / 1000000000000000000)) h := fun h => fFdv_int (by decide) (by decide)
  have Fm := fun (h : Hp) => fFdv_int (h := h) (i := (k : Int)) mx mxb
  obtain ⟨r, t, L⟩ := pick_loop (a := some (scr ns)) (b := some (.int (k : Int))) (c := some (.int (m : Int))) (d := some (.int c)) (g := none) fuel (c / 1000000000000000000) _ tb
  have body : ∀ h (e : R Fl), f__law_pick [scr ns, .int (k : Int), .int (m : Int)] h = fnEnd (((sIf (tVal (two fGt (eLoc 4) (eCst (D.int (0 : Int)))))
      (bCons (sRet (two fMod (two fMod (eLoc 4) (eCst (D.int (840 : Int)))) (eLoc 2))) bNil) bNil) [some (scr ns), some (.int (k : Int)), some (.int (m : Int)), some (.int c), some (.int r), some (.int t), none] h).thn
      (bCons (sAsg (gLoc 6) (two fMod (two fMul (two fAdd (two fMul (eLoc 3) (eCst (D.int (31 : Int)))) (two fMul (eCst (D.int (6151 : Int))) (two fAdd (eLoc 1) (eCst (D.int (1 : Int)))))) (eCst (D.int (40692 : Int)))) (eCst (D.int (2147483399 : Int)))))
      (bCons (sRet (two fMod (two fMod (two fAdd (two fMul (eLoc 6) (eLoc 6)) (two fFdv (eLoc 6) (eCst (D.int (31 : Int))))) (eCst (D.int (2147483629 : Int)))) (eLoc 2))) bNil))) := fun h _ => by
    simp only [f__law_pick, b__law_pick, mkFn_ok, List.length_cons, List.length_nil, Nat.reduceAdd, if_true, e1]
    rw [bCons_ok, sAsg_ok, hc]
    simp only [stm_ok, gLoc_ok, calm_ok, List.set_cons_succ, List.set_cons_zero, thn_nxt]
    rw [bCons_ok, sPar_ok]
    simp only [two_ok, one_ok, eLoc_0, eLoc_s, eCst_ok, bnd_ok, P18, F18, lenE, fMax_int, Fm, stm_ok, List.set_cons_succ, List.set_cons_zero, thn_nxt]
    rw [bCons_ok, L]
    simp only [thn_nxt]
    rw [bCons_ok]
  by_cases c4 : 0 < r
  · have M1 := fun (h : Hp) => fMod_int (h := h) (i := r) (j := 840) (by decide)
    have M2 := fun (h : Hp) => fMod_int (h := h) (i := r % 840) mp
    refine ⟨(r % 840 % (m : Int)).toNat, ?_, fun h => ?_⟩
    · have := Int.emod_lt_of_pos (r % 840) mp
      have := Int.emod_nonneg (r % 840) (by omega : (m : Int) ≠ 0)
      omega
    · rw [body h .no, Int.toNat_of_nonneg (Int.emod_nonneg _ (by omega))]
      simp only [sIf_ok, tVal_ok, two_ok, eLoc_0, eLoc_s, eCst_ok, bnd_ok, fCmp_int, decide_eq_true c4, stm_ok, if_true, bCons_ok, sRet_ok, M1, M2, thn_ret, fnEnd_ret]
  · have A1 := fun (h : Hp) => fMul_int (h := h) (i := c) (j := 31) (mulOk_r (by decide))
    have A2 := fun (h : Hp) => fMul_int (h := h) (i := 6151) (j := (k : Int) + 1) (mulOk_l (by decide))
    have A3 := fun (h : Hp) => fMul_int (h := h) (i := c * 31 + 6151 * ((k : Int) + 1)) (j := 40692) (mulOk_r (by decide))
    have A4 := fun (h : Hp) => fMod_int (h := h) (i := (c * 31 + 6151 * ((k : Int) + 1)) * 40692) (j := 2147483399) (by decide)
    have dl := Int.emod_lt_of_pos ((c * 31 + 6151 * ((k : Int) + 1)) * 40692) (by decide : (0 : Int) < 2147483399)
    have dn := Int.emod_nonneg ((c * 31 + 6151 * ((k : Int) + 1)) * 40692) (by decide : (2147483399 : Int) ≠ 0)
    generalize (c * 31 + 6151 * ((k : Int) + 1)) * 40692 % 2147483399 = e at A4 dl dn
    have A5 := fun (h : Hp) => fMul_int (h := h) (i := e) (j := e) (mulOk_l (by unfold small; rw [decide_eq_true (by omega : -(2 ^ 64) < e), decide_eq_true (by omega : e < 2 ^ 64)]; rfl))
    have A6 := fun (h : Hp) => fFdv_int (h := h) (i := e) (j := 31) (by decide) (by decide)
    have A7 := fun (h : Hp) => fMod_int (h := h) (i := e * e + e / 31) (j := 2147483629) (by decide)
    have A8 := fun (h : Hp) => fMod_int (h := h) (i := (e * e + e / 31) % 2147483629) mp
    refine ⟨((e * e + e / 31) % 2147483629 % (m : Int)).toNat, ?_, fun h => ?_⟩
    · have := Int.emod_lt_of_pos ((e * e + e / 31) % 2147483629) mp
      have := Int.emod_nonneg ((e * e + e / 31) % 2147483629) (by omega : (m : Int) ≠ 0)
      omega
    · rw [body h .no, Int.toNat_of_nonneg (Int.emod_nonneg _ (by omega))]
      simp only [sIf_ok, tVal_ok, two_ok, eLoc_0, eLoc_s, eCst_ok, bnd_ok, fCmp_int, decide_eq_false c4, stm_ok, Bool.false_eq_true, if_false, bNil_ok, thn_nxt, bCons_ok, sAsg_ok, A1, A2, fAdd_int, A3, A4, gLoc_ok, calm_ok, List.set_cons_succ, List.set_cons_zero, sRet_ok, A5, A6, A7, A8, thn_ret, fnEnd_ret]
end IP

namespace IP
open PySem (Str PyData)
open Sh WF
/-! ### drawn wants -/
def isDrawn (x : WI) : Prop := x.1 ∈ [1, 1, 2, 3, 7, 100] ∧ x.2 ∈ [0, 1, 5, 10, 40, 999]
theorem heap_last {h : Hp} {o : O} : (h ++ [o])[h.length]? = some o := by simp
theorem heap_set {h : Hp} {o o' : O} : (h ++ [o]).set h.length o' = h ++ [o'] := by
  simp [List.set_append]
theorem isL_last {h : Hp} {xs : List D} : isL (.ref h.length) (h ++ [.lst xs]) = true := by
  show (match (h ++ [O.lst xs])[h.length]? with
    | some (.lst _) => true
    | _ => false) = true
  rw [heap_last]
theorem fApp_last {h : Hp} {xs : List D} {d : D} (hl : xs.length < 100000) : fApp (.ref h.length) d (h ++ [.lst xs]) = .ok .non (h ++ [.lst (xs ++ [d])]) := by
  show (match (h ++ [O.lst xs])[h.length]? with
    | some (.lst xs) => if xs.length < 100000 then R.ok D.non ((h ++ [O.lst _]).set h.length (.lst (xs ++ [d]))) else R.no
    | _ => R.no) = _
  rw [heap_last]
  simp only [if_pos hl, heap_set]
@[simp] theorem eApp_ok {o a : E} {σ : Lo} {h : Hp} : eApp o a σ h = (o σ h).bnd fun x h => if isL x h then (a σ h).bnd fun d h => fApp x d h else .no := (rfl)
theorem sRetf_last {i : Nat} {σ : Lo} {h : Hp} {xs : List D} (q : σ[i]? = some (some (.ref h.length))) : sRetf i σ (h ++ [.lst xs]) = .ok (.ret (.lst xs)) (h ++ [.gone]) := by
  unfold sRetf
  rw [q]
  show (match (h ++ [O.lst xs])[h.length]? with
    | some (.lst xs) => R.ok (Fl.ret (.lst xs)) ((h ++ [O.lst _]).set h.length .gone)
    | _ => .no) = _
  rw [heap_last]
  simp only [heap_set]
theorem idx6 {h : Hp} {l : List Int} {v : Nat} (hv : v < l.length) : fIdx (.lst (l.map D.int)) (.int (v : Int)) h = .ok (.int l[v]) h := by
  show (if 0 ≤ (v : Int) then opt (l.map D.int)[(v : Int).toNat]? fun d => R.ok d h else R.no) = _
  rw [if_pos (by omega), Int.toNat_natCast, List.getElem?_map, List.getElem?_eq_getElem hv]
  rfl
theorem iRng_ok {e : E} {σ : Lo} {h h' : Hp} {n : Nat} (q : e σ h = .ok (.int (n : Int)) h') (hn : n ≤ 1000000) : iRng e σ h = .ok (rng 0 n) h' := by
  unfold iRng
  rw [q]
  show (if (decide (-1000000 ≤ (n : Int)) && decide ((n : Int) ≤ 1000000)) = true then R.ok (rng 0 (n : Int).toNat) h' else R.no) = _
  rw [if_pos (by simp; omega), Int.toNat_natCast]
theorem wants_loop (ns : List Int) (hns : ns.length ≤ 63) (at_ : Nat) (hat : at_ < 1000) : ∀ (n lo : Nat) (acc : List WI), lo + n < 1000 → acc.length + n < 1000 → ∃ ws : List WI, ws.length = n ∧ (∀ x ∈ ws, isDrawn x) ∧ ∀ (h : Hp) (o3 o4 : Option D), ∃ σ',
    forGo (gLoc 3) (bCons (sAsg (gLoc 4) (two fIdx (eLst (aCons (eCst (D.int (1 : Int))) (aCons (eCst (D.int (1 : Int))) (aCons (eCst (D.int (2 : Int))) (aCons (eCst (D.int (3 : Int))) (aCons (eCst (D.int (7 : Int))) (aCons (eCst (D.int (100 : Int))) aNil))))))) (eCall 3 f__law_pick (aCons (eLoc 0) (aCons (two fAdd (two fAdd (eLoc 1) (eCst (D.int (1 : Int)))) (eLoc 3)) (aCons (eCst (D.int (6 : Int))) aNil))))))
      (bCons (sEx (eApp (eLoc 2) (eTup (aCons (eLoc 4) (aCons (two fIdx (eLst (aCons (eCst (D.int (0 : Int))) (aCons (eCst (D.int (1 : Int))) (aCons (eCst (D.int (5 : Int))) (aCons (eCst (D.int (10 : Int))) (aCons (eCst (D.int (40 : Int))) (aCons (eCst (D.int (999 : Int))) aNil))))))) (eCall 3 f__law_pick (aCons (eLoc 0) (aCons (two fAdd (two fAdd (eLoc 1) (eCst (D.int (9 : Int)))) (eLoc 3)) (aCons (eCst (D.int (6 : Int))) aNil))))) aNil))))) bNil))
      (rng (lo : Int) n) [some (scr ns), some (.int (at_ : Int)), some (.ref h.length), o3, o4] (h ++ [.lst (acc.map wi)]) = .ok (.nxt σ') (h ++ [.lst ((acc ++ ws).map wi)]) ∧ σ'[2]? = some (some (.ref h.length))
  | 0, lo, acc, _, _ => ⟨[], rfl, fun x hx => (by cases hx), fun h o3 o4 => ⟨_, by rw [List.append_nil]; rfl, rfl⟩⟩
  | n + 1, lo, acc, hlo, hac => by
    obtain ⟨v1, b1, p1⟩ := pick_eq ns hns (at_ + 1 + lo) 6 (by decide) (by omega)
    obtain ⟨v2, b2, p2⟩ := pick_eq ns hns (at_ + 9 + lo) 6 (by decide) (by omega)
    have i1 : v1 < ([1, 1, 2, 3, 7, 100] : List Int).length := b1
    have i2 : v2 < ([0, 1, 5, 10, 40, 999] : List Int).length := b2
    have j1 : v1 < ([1, 1, 2, 3, 7, 100] : List Nat).length := b1
    have j2 : v2 < ([0, 1, 5, 10, 40, 999] : List Nat).length := b2
    obtain ⟨ws, l, dr, e⟩ := wants_loop ns hns at_ hat n (lo + 1) (acc ++ [([1, 1, 2, 3, 7, 100][v1], [0, 1, 5, 10, 40, 999][v2])]) (by omega) (by rw [List.length_append]; simp; omega)
    refine ⟨([1, 1, 2, 3, 7, 100][v1], [0, 1, 5, 10, 40, 999][v2]) :: ws, by simp [l], fun x hx => ?_, fun h o3 o4 => ?_⟩
    · rcases List.mem_cons.mp hx with q | hx
      · subst q; exact ⟨List.getElem_mem _, List.getElem_mem _⟩
      · exact dr x hx
    · have c1 : ([1, 1, 2, 3, 7, 100] : List Int)[v1] = (([1, 1, 2, 3, 7, 100] : List Nat)[v1] : Int) := by
        have : v1 = 0 ∨ v1 = 1 ∨ v1 = 2 ∨ v1 = 3 ∨ v1 = 4 ∨ v1 = 5 := by omega
        rcases this with q | q | q | q | q | q <;> subst q <;> rfl
      have c2 : ([0, 1, 5, 10, 40, 999] : List Int)[v2] = (([0, 1, 5, 10, 40, 999] : List Nat)[v2] : Int) := by
        have : v2 = 0 ∨ v2 = 1 ∨ v2 = 2 ∨ v2 = 3 ∨ v2 = 4 ∨ v2 = 5 := by omega
        rcases this with q | q | q | q | q | q <;> subst q <;> rfl
      have a1 : ((at_ : Int) + 1 + (lo : Int)) = ((at_ + 1 + lo : Nat) : Int) := by push_cast; rfl
      have a2 : ((at_ : Int) + 9 + (lo : Int)) = ((at_ + 9 + lo : Nat) : Int) := by push_cast; rfl
      obtain ⟨σ', e1, e2⟩ := e h (some (.int (lo : Int))) (some (.int (([1, 1, 2, 3, 7, 100] : List Nat)[v1] : Int)))
      refine ⟨σ', ?_, e2⟩
      have I1 := fun h : Hp => idx6 (h := h) i1
      have I2 := fun h : Hp => idx6 (h := h) i2
      simp only [List.map_cons, List.map_nil] at I1 I2
      have al : (acc.map wi).length < 100000 := by rw [List.length_map]; omega
      have F := fun d : D => fApp_last (h := h) (d := d) al
      have p1' : ∀ h, f__law_pick [scr ns, .int ((at_ + 1 + lo : Nat) : Int), .int 6] h = .ok (.int (v1 : Int)) h := p1
      have p2' : ∀ h, f__law_pick [scr ns, .int ((at_ + 9 + lo : Nat) : Int), .int 6] h = .ok (.int (v2 : Int)) h := p2
      show forGo _ _ (.int (lo : Int) :: rng ((lo : Int) + 1) n) _ _ = _
      rw [forGo_cons]
      simp only [gLoc_ok, calm_ok, stm_ok, List.set_cons_succ, List.set_cons_zero, bCons_ok, sAsg_ok, two_ok, eLst_ok, aCons_ok, aNil_ok, eCst_ok, bnd_ok, List.length_cons, List.length_nil, Nat.reduceAdd, Nat.reduceLeDiff, if_true, eCall_ok, eLoc_0, eLoc_s, fAdd_int, a1, p1', I1, c1, thn_nxt, sEx_ok, eApp_ok, isL_last, eTup_ok, a2, p2', I2, c2, F, bNil_ok, trn_nxt]
      have r1 : ((lo : Int) + 1) = ((lo + 1 : Nat) : Int) := by push_cast; rfl
      have r2 : acc.map wi ++ [D.tup [D.int (([1, 1, 2, 3, 7, 100] : List Nat)[v1] : Int), D.int (([0, 1, 5, 10, 40, 999] : List Nat)[v2] : Int)]] = (acc ++ [(([1, 1, 2, 3, 7, 100] : List Nat)[v1], ([0, 1, 5, 10, 40, 999] : List Nat)[v2])]).map wi := by
        rw [List.map_append]; rfl
      rw [r1, r2, e1]
      simp
theorem wants_eq (ns : List Int) (hns : ns.length ≤ 63) (at_ : Nat) (hat : at_ < 900) : ∃ ws : List WI, ws.length ≤ 7 ∧ (∀ x ∈ ws, isDrawn x) ∧ ∀ h, f__law_wants [scr ns, .int (at_ : Int)] h = .ok (.lst (ws.map wi)) (h ++ [.gone]) := by
  obtain ⟨v, b, p⟩ := pick_eq ns hns at_ 8 (by decide) (by omega)
  obtain ⟨ws, l, dr, e⟩ := wants_loop ns hns at_ (by omega) v 0 [] (by omega) (by simp; omega)
  refine ⟨ws, by omega, dr, fun h => ?_⟩
  have e1 : entry 5 [scr ns, D.int (at_ : Int)] = [some (scr ns), some (.int (at_ : Int)), none, none, none] := rfl
  obtain ⟨σ', e2, e3⟩ := e h none none
  have p' : f__law_pick [scr ns, .int (at_ : Int), .int 8] (h ++ [.lst []]) = .ok (.int (v : Int)) (h ++ [.lst []]) := p _
  simp only [f__law_wants, b__law_wants, mkFn_ok, List.length_cons, List.length_nil, Nat.reduceAdd, if_true, e1]
  rw [bCons_ok, sAsg_ok, eMkl_ok]
  simp only [aNil_ok, bnd_ok, List.length_nil, Nat.zero_le, if_true, stm_ok, gLoc_ok, calm_ok, List.set_cons_succ, List.set_cons_zero, thn_nxt]
  rw [bCons_ok, sFor_ok, iRng_ok (h' := h ++ [.lst []]) (n := v) (by simp only [eCall_ok, aCons_ok, aNil_ok, eLoc_0, eLoc_s, eCst_ok, bnd_ok, List.length_cons, List.length_nil, Nat.reduceAdd, if_true, p']) (by omega), stm_ok]
  have e2' := e2
  simp only [List.map_nil, List.nil_append] at e2'
  have z : ((0 : Nat) : Int) = (0 : Int) := rfl
  rw [z] at e2'
  rw [e2', thn_nxt, bCons_ok, sRetf_last e3]
  rfl
theorem drawn_val {a : Nat} {ws : List WI} (ha : a ≤ 9999) (hl : ws.length ≤ 12) (h : ∀ x ∈ ws, isDrawn x) : Val a ws := ⟨ha, hl, fun x hx => by
  obtain ⟨h1, h2⟩ := h x hx
  simp only [List.mem_cons, List.not_mem_nil, or_false] at h1 h2
  omega⟩
/-! ### the law's own fractions -/
theorem same_eq {h : Hp} {a b c d : Int} (h1 : mulOk a d = true) (h2 : mulOk c b = true) : f__law_same [.tup [.int a, .int b], .tup [.int c, .int d]] h = .ok (.bl (decide (a * d = c * b))) h := by
  have e1 : entry 2 [D.tup [.int a, .int b], D.tup [.int c, .int d]] = [some (.tup [.int a, .int b]), some (.tup [.int c, .int d])] := rfl
  simp only [f__law_same, b__law_same, mkFn_ok, List.length_cons, List.length_nil, Nat.reduceAdd, if_true, e1, bCons_ok, sRet_ok, two_ok, eLoc_0, eLoc_s, eCst_ok, bnd_ok, fIdx_tup0, fIdx_tup1, fMul_int h1, fMul_int h2, fEq_int, stm_ok, thn_ret, fnEnd_ret]
theorem less_eq {h : Hp} {a b c d : Int} (h1 : mulOk a d = true) (h2 : mulOk c b = true) : f__law_less [.tup [.int a, .int b], .tup [.int c, .int d]] h = .ok (.bl (decide (a * d < c * b))) h := by
  have e1 : entry 2 [D.tup [.int a, .int b], D.tup [.int c, .int d]] = [some (.tup [.int a, .int b]), some (.tup [.int c, .int d])] := rfl
  simp only [f__law_less, b__law_less, mkFn_ok, List.length_cons, List.length_nil, Nat.reduceAdd, if_true, e1, bCons_ok, sRet_ok, two_ok, eLoc_0, eLoc_s, eCst_ok, bnd_ok, fIdx_tup0, fIdx_tup1, fMul_int h1, fMul_int h2, fCmp_int, stm_ok, thn_ret, fnEnd_ret]
/-- a fraction's pair, lowest or not -/
def pr (t : Int) (b : Nat) : D := .tup [.int t, .int (b : Int)]
theorem pr_fr (q : Rat) : fr q = pr q.num q.den := rfl
theorem cross_lt {t u : Int} {b c : Nat} {p q : Rat} (hb : 0 < b) (hc : 0 < c) (hp : p * b = t) (hq : q * c = u) : t * c < u * b ↔ p < q := by
  have b1 : (0 : Rat) < (b : Rat) := by exact_mod_cast hb
  have c1 : (0 : Rat) < (c : Rat) := by exact_mod_cast hc
  have bc := Rat.mul_pos b1 c1
  have e1 : ((t * c : Int) : Rat) = p * ((b : Rat) * (c : Rat)) := by push_cast; rw [← hp]; grind
  have e2 : ((u * b : Int) : Rat) = q * ((b : Rat) * (c : Rat)) := by push_cast; rw [← hq]; grind
  have e3 : t * c < u * b ↔ ((t * c : Int) : Rat) < ((u * b : Int) : Rat) := by
    constructor
    · intro z; exact_mod_cast z
    · intro z; exact_mod_cast z
  rw [e3, e1, e2]
  constructor
  · intro z
    refine Classical.byContradiction fun n => ?_
    have n' : q ≤ p := by grind
    have := Rat.mul_le_mul_of_nonneg_right n' (Rat.le_of_lt bc)
    grind
  · intro z
    exact Rat.mul_lt_mul_of_pos_right z bc
theorem cross_eq {t u : Int} {b c : Nat} {p q : Rat} (hb : 0 < b) (hc : 0 < c) (hp : p * b = t) (hq : q * c = u) : t * c = u * b ↔ p = q := by
  have h1 := cross_lt hb hc hp hq
  have h2 := cross_lt hc hb hq hp
  constructor
  · intro e
    have n1 : ¬ p < q := fun z => by have := h1.mpr z; omega
    have n2 : ¬ q < p := fun z => by have := h2.mpr z; omega
    grind
  · intro e
    have n1 : ¬ t * c < u * b := fun z => by have := h1.mp z; grind
    have n2 : ¬ u * b < t * c := fun z => by have := h2.mp z; grind
    omega
theorem num_den (q : Rat) : q * (q.den : Rat) = (q.num : Rat) := by
  have d1 : (q.den : Rat) ≠ 0 := by exact_mod_cast q.den_nz
  have e : q = (q.num : Rat) / (q.den : Rat) := by rw [← Rat.mkRat_eq_div, Rat.mkRat_self]
  have : (q.num : Rat) / (q.den : Rat) * (q.den : Rat) = (q.num : Rat) := by grind
  rw [← e] at this
  exact this
theorem less_pr {h : Hp} {t u : Int} {b c : Nat} {p q : Rat} (hb : 0 < b) (hc : 0 < c) (hp : p * b = t) (hq : q * c = u) (h1 : mulOk t c = true) (h2 : mulOk u b = true) : f__law_less [pr t b, pr u c] h = .ok (.bl (decide (p < q))) h := by
  unfold pr
  rw [less_eq h1 h2]
  congr 2
  rw [decide_eq_decide]
  exact cross_lt hb hc hp hq
theorem same_pr {h : Hp} {t u : Int} {b c : Nat} {p q : Rat} (hb : 0 < b) (hc : 0 < c) (hp : p * b = t) (hq : q * c = u) (h1 : mulOk t c = true) (h2 : mulOk u b = true) : f__law_same [pr t b, pr u c] h = .ok (.bl (decide (p = q))) h := by
  unfold pr
  rw [same_eq h1 h2]
  congr 2
  rw [decide_eq_decide]
  exact cross_eq hb hc hp hq
theorem less_fr {h : Hp} {p q : Rat} (sp : Smq p) (sq : Smq q) : f__law_less [fr p, fr q] h = .ok (.bl (decide (p < q))) h :=
  less_pr p.den_pos q.den_pos (num_den p) (num_den q) (mulOk_b sp.sn sq.sd) (mulOk_b sq.sn sp.sd)
/-- lowest terms -/
theorem fraction_eq {h : Hp} {q : Rat} (s : Smq q) : f__law_fraction [fr q] h = .ok (.bl true) h := by
  have e1 : entry 3 [fr q] = [some (fr q), none, none] := rfl
  have n0 := s.n0
  obtain ⟨x, hx⟩ := Int.eq_ofNat_of_zero_le n0
  have d1 : ¬ (q.den : Int) < 1 := by have := q.den_pos; omega
  have L := gcd_loop (c := tVal (two fNe (eLoc 2) (eCst (.int 0)))) (b := bCons (sPar 1 2 (eLoc 2) (two fMod (eLoc 1) (eLoc 2))) bNil) (h := h)
    (fun a b σ => σ = [some (fr q), some (.int a), some (.int b)])
    (fun a b σ e => by subst e; by_cases z : b = 0 <;> simp [z] <;> omega)
    (fun a b σ z e => by
      subst e
      refine ⟨_, ?_, rfl⟩
      simp [fMod_int (show (0 : Int) < (b : Int) by omega)])
    fuel x q.den _ (Nat.lt_trans s.den (by decide)) rfl
  obtain ⟨σ', e, hσ⟩ := L
  subst hσ
  have g : Nat.gcd x q.den = 1 := by
    have := q.reduced
    rw [hx, Int.natAbs_natCast] at this
    exact this
  rw [g] at e
  have z1 : fIs Ty.tuple (fr q) h = .ok (.bl true) h := rfl
  have z2 : fLen (fr q) h = .ok (.int 2) h := rfl
  have z3 : fIdx (fr q) (.int 1) h = .ok (.int (q.den : Int)) h := rfl
  have z4 : fIdx (fr q) (.int 0) h = .ok (.int (x : Int)) h := by rw [← hx]; rfl
  have z5 : gTup 2 (gCons (gLoc 1) (gCons (gLoc 2) gNil)) (fr q) [some (fr q), none, none] h = .ok [some (fr q), some (.int (x : Int)), some (.int (q.den : Int))] h := by rw [← hx]; rfl
  have n1 : ¬ (x : Int) < 0 := by omega
  simp only [f__law_fraction, b__law_fraction, mkFn_ok, List.length_cons, List.length_nil, Nat.reduceAdd, if_true, e1]
  rw [bCons_ok]
  simp only [sIf_ok, tOr_ok, tNot_ok, tVal_ok, one_ok, two_ok, eLoc_0, bnd_ok, z1, Bool.not_true, Bool.false_eq_true, if_false, z2, eCst_ok, fNe_int, decide_true, z3, fCmp_int, decide_eq_false d1, z4, decide_eq_false n1, stm_ok, bNil_ok, thn_nxt]
  rw [bCons_ok, sAsg_ok, eLoc_0, stm_ok, z5, calm_ok, stm_ok, thn_nxt, bCons_ok, e, thn_nxt]
  simp only [bCons_ok, sRet_ok, two_ok, eLoc_0, eLoc_s, eCst_ok, bnd_ok, fEq_int, stm_ok, thn_ret, fnEnd_ret]
  rfl
end IP

namespace IP
open PySem (Str PyData)
open Sh WF
/-- quite small ones -/
structure S64 (q : Rat) : Prop where
  nn : 0 ≤ q
  num : q.num.natAbs ≤ 24000000
  den : q.den ≤ 1200
theorem s64_of {d : Nat} {q : Rat} (hd : 0 < d) (hd2 : d ≤ 1200) (m : Mul d q) (h0 : 0 ≤ q) (hq : q ≤ (20000 : Nat)) : S64 q := by
  obtain ⟨k, e⟩ := m
  have dn : (d : Rat) ≠ 0 := by
    have : d ≠ 0 := by omega
    exact_mod_cast this
  have dp : (0 : Rat) < (d : Rat) := by exact_mod_cast hd
  have eq : q = mkRat k d := by rw [Rat.mkRat_eq_div, ← e]; grind
  have k0 : (0 : Rat) ≤ (k : Rat) := by
    rw [← e]
    exact Rat.mul_nonneg h0 (Rat.le_of_lt dp)
  have k0' : 0 ≤ k := by exact_mod_cast k0
  have kB : (k : Rat) ≤ ((20000 * d : Nat) : Rat) := by
    rw [← e]; push_cast
    exact Rat.mul_le_mul_of_nonneg_right hq (Rat.le_of_lt dp)
  have kB' : k ≤ ((20000 * d : Nat) : Int) := by exact_mod_cast kB
  obtain ⟨x, rfl⟩ := Int.eq_ofNat_of_zero_le k0'
  obtain ⟨e1, e2⟩ := mkRat_nat (x := x) hd
  refine ⟨h0, ?_, ?_⟩
  · rw [eq, e1]
    have g : (x : Int) / (Nat.gcd x d : Int) = ((x / Nat.gcd x d : Nat) : Int) := by push_cast; rfl
    rw [g, Int.natAbs_natCast]
    have h1 : x ≤ 20000 * d := by exact_mod_cast kB'
    have := Nat.div_le_self x (Nat.gcd x d)
    omega
  · rw [eq, e2]
    have := Nat.div_le_self d (Nat.gcd x d)
    omega
theorem small_of_abs {i : Int} (h : i.natAbs ≤ 24000000) : small i = true := by
  unfold small
  rw [decide_eq_true (by omega : -(2 ^ 64) < i), decide_eq_true (by omega : i < 2 ^ 64)]; rfl
theorem S64.sn {q : Rat} (s : S64 q) : small q.num = true := small_of_abs s.num
theorem S64.sd {q : Rat} (s : S64 q) : small (q.den : Int) = true := small_of_abs (by rw [Int.natAbs_natCast]; have := s.den; omega)
theorem sh_64 {a : Nat} {ws : List WI} (v : Val a ws) {x : WI} (hx : x ∈ ws) : S64 (sh a ws x) := by
  obtain ⟨d, d0, d1, dm⟩ := sh_mul v
  refine s64_of d0 d1 (dm x hx) (sh_sm v hx).nn ?_
  have h1 := sh_le v (x := x)
  have h2 := (v.ok x hx).2.2
  have : (x.2 : Rat) ≤ ((20000 : Nat) : Rat) := by exact_mod_cast (by omega : x.2 ≤ 20000)
  grind
/-! ### the law's sum -/
theorem sum_fold {h : Hp} {s0 : Option D} : ∀ (qs : List Rat) (t : Int) (b k : Nat) (acc : Rat) (o3 o4 : Option D), (∀ q ∈ qs, S64 q) → 0 < b → b ≤ 1200 ^ k → acc * b = t → ∃ (t' : Int) (b' : Nat) (o3' o4' : Option D),
    forGo (gTup 2 (gCons (gLoc 3) (gCons (gLoc 4) gNil))) (bCons (sPar 1 2 (two fAdd (two fMul (eLoc 1) (eLoc 4)) (two fMul (eLoc 3) (eLoc 2))) (two fMul (eLoc 2) (eLoc 4))) bNil) (qs.map fr) [s0, some (.int t), some (.int (b : Int)), o3, o4] h =
      .ok (.nxt [s0, some (.int t'), some (.int (b' : Int)), o3', o4']) h ∧ 0 < b' ∧ b' ≤ 1200 ^ (k + qs.length) ∧ (acc + lsum qs) * b' = t'
  | [], t, b, k, acc, o3, o4, _, hb, hk, e => ⟨t, b, o3, o4, rfl, hb, hk, by rw [← e]; simp only [lsum]; grind⟩
  | q :: r, t, b, k, acc, o3, o4, hs, hb, hk, e => by
    have s := hs q (List.mem_cons_self ..)
    have nd := num_den q
    have e2 : (acc + q) * ((b * q.den : Nat) : Rat) = ((t * (q.den : Int) + q.num * (b : Int) : Int) : Rat) := by push_cast; rw [← e, ← nd]; grind
    have kb : b * q.den ≤ 1200 ^ (k + 1) := by rw [Nat.pow_succ]; exact Nat.mul_le_mul hk s.den
    obtain ⟨t', b', o3', o4', f, b0, bk, ef⟩ := sum_fold (h := h) (s0 := s0) r (t * (q.den : Int) + q.num * (b : Int)) (b * q.den) (k + 1) (acc + q) (some (.int q.num)) (some (.int (q.den : Int))) (fun x hx => hs x (List.mem_cons_of_mem _ hx)) (Nat.mul_pos hb q.den_pos) kb e2
    refine ⟨t', b', o3', o4', ?_, b0, by rw [List.length_cons]; rw [show k + (r.length + 1) = k + 1 + r.length by omega]; exact bk, ?_⟩
    · rw [List.map_cons, forGo_cons]
      have z : gTup 2 (gCons (gLoc 3) (gCons (gLoc 4) gNil)) (fr q) [s0, some (.int t), some (.int (b : Int)), o3, o4] h = .ok [s0, some (.int t), some (.int (b : Int)), some (.int q.num), some (.int (q.den : Int))] h := rfl
      have c : ((b : Int) * (q.den : Int)) = ((b * q.den : Nat) : Int) := by push_cast; rfl
      have M1 := fMul_int (h := h) (i := t) (j := (q.den : Int)) (mulOk_r s.sd)
      have M2 := fMul_int (h := h) (i := q.num) (j := (b : Int)) (mulOk_l s.sn)
      have M3 := fMul_int (h := h) (i := (b : Int)) (j := (q.den : Int)) (mulOk_r s.sd)
      rw [c] at M3
      simp only [z, calm_ok, stm_ok, bCons_ok, sPar_ok, two_ok, eLoc_0, eLoc_s, bnd_ok, M1, M2, M3, fAdd_int, List.set_cons_succ, List.set_cons_zero, thn_nxt, bNil_ok, trn_nxt]
      exact f
    · rw [← ef]; simp only [lsum]; grind
theorem halve_loop {h : Hp} {s0 o3 o4 : Option D} {acc : Rat} : ∀ (n : Nat) (t : Int) (b : Nat), b < n → 0 < b → acc * b = t → ∃ (t' : Int) (b' : Nat),
    sWhl n (tAnd (tVal (two fEq (two fMod (eLoc 2) (eCst (D.int (2 : Int)))) (eCst (D.int (0 : Int))))) (tAnd (tVal (two fEq (two fMod (eLoc 1) (eCst (D.int (2 : Int)))) (eCst (D.int (0 : Int))))) (tVal (two fGt (eLoc 2) (eCst (D.int (0 : Int)))))))
      (bCons (sPar 1 2 (two fFdv (eLoc 1) (eCst (D.int (2 : Int)))) (two fFdv (eLoc 2) (eCst (D.int (2 : Int))))) bNil) [s0, some (.int t), some (.int (b : Int)), o3, o4] h = .ok (.nxt [s0, some (.int t'), some (.int (b' : Int)), o3, o4]) h ∧ 0 < b' ∧ acc * b' = t'
  | 0, _, _, q, _, _ => absurd q (Nat.not_lt_zero _)
  | n + 1, t, b, q, hb, e => by
    rw [sWhl_succ]
    have M1 := fMod_int (h := h) (i := (b : Int)) (j := 2) (by decide)
    have M2 := fMod_int (h := h) (i := t) (j := 2) (by decide)
    have bp : (0 : Int) < (b : Int) := by omega
    simp only [tAnd_ok, tVal_ok, two_ok, eLoc_0, eLoc_s, eCst_ok, bnd_ok, M1, M2, fEq_int, fCmp_int, decide_eq_true bp]
    by_cases c1 : (b : Int) % 2 = 0
    · by_cases c2 : t % 2 = 0
      · have e2 : acc * ((b / 2 : Nat) : Rat) = ((t / 2 : Int) : Rat) := by
          have b2 : b = 2 * (b / 2) := by omega
          have t2 : t = 2 * (t / 2) := by omega
          have e' : acc * ((2 * (b / 2) : Nat) : Rat) = ((2 * (t / 2) : Int) : Rat) := by rw [← b2, ← t2]; exact e
          push_cast at e'
          grind
        obtain ⟨t', b', f, f1, f2⟩ := halve_loop (h := h) (s0 := s0) (o3 := o3) (o4 := o4) (acc := acc) n (t / 2) (b / 2) (by omega) (by omega) e2
        refine ⟨t', b', ?_, f1, f2⟩
        have D1 := fFdv_int (h := h) (i := t) (j := 2) (by decide) (by decide)
        have D2 := fFdv_int (h := h) (i := (b : Int)) (j := 2) (by decide) (by decide)
        have c : ((b : Int) / 2) = ((b / 2 : Nat) : Int) := by push_cast; rfl
        rw [c] at D2
        simp only [decide_eq_true c1, decide_eq_true c2, if_true, bnd_ok, stm_ok, bCons_ok, sPar_ok, two_ok, eLoc_0, eLoc_s, eCst_ok, D1, D2, List.set_cons_succ, List.set_cons_zero, thn_nxt, bNil_ok, trn_nxt]
        exact f
      · exact ⟨t, b, by simp only [decide_eq_true c1, decide_eq_false c2, if_true, bnd_ok, Bool.false_eq_true, if_false, stm_ok], hb, e⟩
    · exact ⟨t, b, by simp only [decide_eq_false c1, bnd_ok, Bool.false_eq_true, if_false, stm_ok], hb, e⟩
theorem law_sum_eq {h : Hp} {qs : List Rat} (hs : ∀ q ∈ qs, S64 q) (hl : qs.length ≤ 12) : ∃ (t : Int) (b : Nat), f__law_sum [.lst (qs.map fr)] h = .ok (pr t b) h ∧ 0 < b ∧ lsum qs * b = t := by
  have e1 : entry 5 [D.lst (qs.map fr)] = [some (.lst (qs.map fr)), none, none, none, none] := rfl
  obtain ⟨t, b, o3, o4, f, b0, bk, e⟩ := sum_fold (h := h) (s0 := some (.lst (qs.map fr))) qs 0 1 0 0 none none hs (by decide) (by decide) (by simp)
  have bf : b < fuel := Nat.lt_of_le_of_lt (Nat.le_trans bk (Nat.pow_le_pow_right (by decide) (by omega : 0 + qs.length ≤ 12))) (by decide)
  obtain ⟨t', b', g, g1, g2⟩ := halve_loop (h := h) (s0 := some (.lst (qs.map fr))) (o3 := o3) (o4 := o4) fuel t b bf b0 e
  refine ⟨t', b', ?_, g1, by rw [← g2]; grind⟩
  have z : ((1 : Nat) : Int) = (1 : Int) := rfl
  rw [z] at f
  simp only [f__law_sum, b__law_sum, mkFn_ok, List.length_cons, List.length_nil, Nat.reduceAdd, if_true, e1]
  rw [bCons_ok, sAsg_ok, eTup_ok]
  simp only [aCons_ok, aNil_ok, eCst_ok, bnd_ok, List.length_cons, List.length_nil, Nat.reduceAdd, Nat.reduceLeDiff, if_true, stm_ok, gTup_ok, gCons_ok, gLoc_ok, gNil_ok, calm_ok, List.set_cons_succ, List.set_cons_zero, thn_nxt]
  rw [bCons_ok, sFor_ok, iSeq_ok, eLoc_0, bnd_ok, seqOf_lst, opt_some, stm_ok, f, thn_nxt, bCons_ok, g, thn_nxt]
  simp only [bCons_ok, sRet_ok, eTup_ok, aCons_ok, aNil_ok, eLoc_0, eLoc_s, bnd_ok, List.length_cons, List.length_nil, Nat.reduceAdd, Nat.reduceLeDiff, if_true, stm_ok, thn_ret, fnEnd_ret]
  rfl
end IP

namespace IP
open PySem (Str PyData)
open Sh WF
/-! ### the level is one alone -/
theorem got_sat {l k : Rat} {x : W} (h : l < k) (hw : 1 ≤ x.1) (e : got l x = got k x) : got l x = x.2 := by
  have w0 : (0 : Rat) < (x.1 : Rat) := by exact_mod_cast hw
  have := Rat.mul_lt_mul_of_pos_right h w0
  unfold got at e ⊢
  split at e <;> split at e <;> split <;> grind
theorem F_sat {l k : Rat} (h : l < k) : ∀ {ws : List W}, Ok ws → F l ws = F k ws → F l ws = msum ws
  | [], _, _ => rfl
  | x :: r, ok, e => by
    have h1 := got_mono (Rat.le_of_lt h) x
    have h2 := F_mono (Rat.le_of_lt h) r
    simp only [F] at e
    have e1 : got l x = got k x := by grind
    have e2 : F l r = F k r := by grind
    have s1 := got_sat h (ok x (List.mem_cons_self ..)).1 e1
    have s2 := F_sat h (fun y hy => ok y (List.mem_cons_of_mem _ hy)) e2
    simp only [F, msum, s1, s2]
theorem lev_eq {a l : Rat} {ws : List W} (ok : Ok ws) (h0 : 0 ≤ a) (h : a < msum ws) (e : F l ws = a) : lev a ws = some l := by
  obtain ⟨k, h1, h2, h3⟩ := lev_some ok h0 h
  rw [h1]
  congr 1
  refine Classical.byContradiction fun n => ?_
  have : l < k ∨ k < l := by grind
  rcases this with q | q
  · have := F_sat q ok (by rw [e, h3])
    grind
  · have := F_sat q ok (by rw [e, h3])
    grind
section
variable {h : Hp}
theorem fMul_rep {d : D} {n : Nat} (hn : n ≤ 100000) : fMul (.lst [d]) (.int (n : Int)) h = .ok (.lst (List.replicate n d)) h := by
  show (if (decide ((n : Int) ≤ 100000) && decide (-100000 ≤ (n : Int)) && decide (([d] : List D).length * (n : Int).toNat ≤ 100000)) = true then R.ok (D.lst (List.replicate (n : Int).toNat [d]).flatten) h else R.no) = _
  rw [if_pos (by simp; omega), Int.toNat_natCast]
  congr 2
  induction n with
  | zero => rfl
  | succ n ih => rw [List.replicate_succ, List.flatten_cons, ih (by omega)]; rfl
theorem fAdd_lst {xs ys : List D} (hl : xs.length + ys.length ≤ 100000) : fAdd (.lst xs) (.lst ys) h = .ok (.lst (xs ++ ys)) h := by
  show (if xs.length + ys.length ≤ 100000 then R.ok (D.lst (xs ++ ys)) h else R.no) = _
  rw [if_pos hl]
theorem frs_iK (qs : List Rat) : iK 2 (.lst (qs.map fr)) = true := by
  refine lst_iK (k := 1) (iKs_all.mpr fun d hd => ?_)
  obtain ⟨q, _, rfl⟩ := List.mem_map.mp hd
  exact fr_iK q
theorem fNe_frs {ps qs : List Rat} (e : ps = qs) : fNe (.lst (ps.map fr)) (.lst (qs.map fr)) h = .ok (.bl false) h := fNe_no (frs_iK ps) (frs_iK qs) (by decide) (by rw [e])
theorem fEq_frs {ps qs : List Rat} (e : ps = qs) : fEq (.lst (ps.map fr)) (.lst (qs.map fr)) h = .ok (.bl true) h := fEq_yes (frs_iK ps) (frs_iK qs) (by decide) (by rw [e])
theorem fNe_fr {p q : Rat} (e : p = q) : fNe (fr p) (fr q) h = .ok (.bl false) h := fNe_no (fr_iK p) (fr_iK q) (by decide) (by rw [e])
theorem fEq_fr {p q : Rat} : fEq (fr p) (fr q) h = .ok (.bl (decide (p = q))) h := by
  by_cases c : p = q
  · rw [decide_eq_true c]; exact fEq_yes (fr_iK p) (fr_iK q) (by decide) (by rw [c])
  · rw [decide_eq_false c]; exact fEq_no (fr_iK p) (fr_iK q) (by decide) (fun z => c (fr_inj.mp z))
theorem fEq_non_fr {q : Rat} : fEq .non (fr q) h = .ok (.bl false) h := by
  have p1 : plain .non = true := rfl
  have p2 : plain (fr q) = true := plain_iK (fr_iK q) (by decide)
  unfold fEq eqD
  rw [p1, p2]
  rfl
theorem fNe_lv {o : Option Rat} {q : Rat} (e : o = some q) : fNe (lvD o) (fr q) h = .ok (.bl false) h := by
  rw [e]; exact fNe_fr rfl
theorem lc_int2 {σ : Lo} {e : E} {i j : Nat} {ws : List WI} (hσ : e σ h = .ok (.lst (ws.map wi)) h) (hl : ws.length ≤ 50000) (hi : i < σ.length) (hj : j < σ.length) (ne : i ≠ j) :
    eLc [i, j] (gTup 2 (gCons (gLoc i) (gCons (gLoc j) gNil))) (iSeq e) tYes (eLoc j) σ h = .ok (.lst (ws.map fun x => D.int (x.2 : Int))) h := by
  refine eLc_all (u := wi) (by rw [iSeq_ok, hσ]; rfl) (fun x hx => ?_) (by omega)
  have q : ((((wipe σ [i, j]).set i (some (D.int (x.1 : Int)))).set j (some (D.int (x.2 : Int)))))[j]? = some (some (D.int (x.2 : Int))) := by
    rw [List.getElem?_set_self (by simpa using hj)]
  show ((gTup 2 _ (D.tup [_, _]) _ h).bnd _).calm = _
  simp only [gTup_ok, List.length_cons, List.length_nil, Nat.reduceAdd, if_true, gCons_ok, gLoc_ok, bnd_ok, gNil_ok, tYes_ok]
  rw [eLoc_ok q]
  rfl
end
theorem sum_n {f : WI → Nat} : ∀ ws : List WI, (ws.map fun x => (f x : Int)).sum = (((ws.map f).sum : Nat) : Int)
  | [] => rfl
  | x :: r => by simp only [List.map_cons, List.sum_cons, sum_n r]; push_cast; rfl
theorem zip_map {α : Type} (f g : α → D) : ∀ xs : List α, zipD (xs.map f) (xs.map g) = xs.map fun x => .tup [f x, g x]
  | [] => rfl
  | x :: r => by simp only [List.map_cons, zipD, zip_map f g r]
/-- shares as a list of fractions -/
def shs (a : Nat) (ws : List WI) : List Rat := ws.map (sh a ws)
theorem shares_eq2 {a : Nat} {ws : List WI} {h : Hp} (v : Val a ws) : f_shares [.int a, .lst (ws.map wi)] h = .ok (.lst ((shs a ws).map fr)) h := by
  rw [shares_eq v]
  unfold shs
  rw [List.map_map]
  rfl
theorem sh_some {a : Nat} {ws : List WI} {l : Rat} (e : lv a ws = some l) (x : WI) : sh a ws x = got l (toW x) := by
  show share (lv a ws) (toW x) = _; rw [e]; rfl
theorem sh_none {a : Nat} {ws : List WI} (e : lv a ws = none) (x : WI) : sh a ws x = (x.2 : Rat) := by
  show share (lv a ws) (toW x) = _; rw [e]; rfl
theorem F_toW (l : Rat) : ∀ ws : List WI, F l (ws.map toW) = lsum (ws.map fun x => got l (toW x))
  | [] => rfl
  | x :: r => by simp only [List.map_cons, F, lsum, F_toW l r]
theorem lsum_rep (q : Rat) : ∀ n : Nat, lsum (List.replicate n q) = q * n
  | 0 => by simp [lsum]
  | n + 1 => by
    rw [List.replicate_succ]
    simp only [lsum, lsum_rep q n]
    push_cast; grind
theorem lv_of {a : Nat} {ws : List WI} (v : Val a ws) {l : Rat} (h : a < (ws.map (·.2)).sum) (e : lsum (ws.map fun x => got l (toW x)) = (a : Rat)) : lv a ws = some l :=
  lev_eq v.okW v.fits.a0 (by rw [msum_toW]; exact_mod_cast h) (by rw [F_toW]; exact e)
theorem lv_non {a : Nat} {ws : List WI} (h : (ws.map (·.2)).sum ≤ a) : lv a ws = none :=
  lev_none (by rw [msum_toW]; intro z; have : a < (ws.map (·.2)).sum := by exact_mod_cast z
               omega)
theorem unshared_of {a : Nat} {ws : List WI} {h : Hp} (v : Val a ws) : f_unshared [.int a, .lst (ws.map wi)] h = .ok (fr ((a - (ws.map (·.2)).sum : Nat) : Rat)) h := by
  rw [unshared_eq v]
  congr 2
  rw [sh_sum v, msum_toW]
  by_cases c : a < (ws.map (·.2)).sum
  · rw [if_pos (by exact_mod_cast c), Nat.sub_eq_zero_of_le (by omega)]
    grind
  · rw [if_neg (by intro z; have : a < (ws.map (·.2)).sum := by exact_mod_cast z
                   omega)]
    have e : a = (a - (ws.map (·.2)).sum) + (ws.map (·.2)).sum := by omega
    have e2 : (a : Rat) = ((a - (ws.map (·.2)).sum : Nat) : Rat) + (((ws.map (·.2)).sum : Nat) : Rat) := by exact_mod_cast e
    grind
theorem nat_div {x y : Nat} (hy : 0 < y) : mkRat (x : Int) y = (x : Rat) / (y : Rat) := by
  rw [Rat.mkRat_eq_div]
  first | rfl | norm_cast
theorem div_mul {x y : Nat} (hy : 0 < y) : (x : Rat) / (y : Rat) * (y : Rat) = (x : Rat) := by
  have : (y : Rat) ≠ 0 := by
    have : y ≠ 0 := by omega
    exact_mod_cast this
  grind
end IP

namespace IP
open PySem (Str PyData)
open Sh WF
/-! ### levels compared -/
theorem F_append (l : Rat) : ∀ xs ys : List W, F l (xs ++ ys) = F l xs + F l ys
  | [], ys => by simp only [List.nil_append, F]; grind
  | x :: r, ys => by simp only [List.cons_append, F, F_append l r ys]; grind
theorem msum_append : ∀ xs ys : List W, msum (xs ++ ys) = msum xs + msum ys
  | [], ys => by simp only [List.nil_append, msum]; grind
  | x :: r, ys => by simp only [List.cons_append, msum, msum_append r ys]; grind
theorem F_reverse (l : Rat) : ∀ xs : List W, F l xs.reverse = F l xs
  | [] => rfl
  | x :: r => by
    rw [List.reverse_cons, F_append, F_reverse l r]
    simp only [F]; grind
theorem msum_reverse : ∀ xs : List W, msum xs.reverse = msum xs
  | [] => rfl
  | x :: r => by
    rw [List.reverse_cons, msum_append, msum_reverse r]
    simp only [msum]; grind
/-- a level is no greater -/
theorem lev_le {l k : Rat} {ws : List W} (ok : Ok ws) (h : F k ws < msum ws) (e : F l ws ≤ F k ws) : l ≤ k := by
  refine Classical.byContradiction fun n => ?_
  have n' : k < l := by grind
  have m := F_mono (Rat.le_of_lt n') ws
  have s := F_sat n' ok (by grind)
  grind
theorem lev_same {a : Rat} {ws us : List W} (ok : Ok ws) (ok2 : Ok us) (h0 : 0 ≤ a) (m : msum us = msum ws) (f : ∀ l, F l us = F l ws) : lev a us = lev a ws := by
  by_cases c : a < msum ws
  · obtain ⟨l, e1, e2, e3⟩ := lev_some ok h0 c
    rw [e1]
    exact lev_eq ok2 h0 (by rw [m]; exact c) (by rw [f, e3])
  · rw [lev_none c, lev_none (by rw [m]; exact c)]
section
variable {a b : Nat} {ws : List WI}
theorem lv_cases (v : Val a ws) : (∃ l, lv a ws = some l ∧ 0 ≤ l ∧ F l (ws.map toW) = (a : Rat) ∧ (a : Rat) < msum (ws.map toW)) ∨ (lv a ws = none ∧ ¬ (a : Rat) < msum (ws.map toW)) := by
  by_cases c : (a : Rat) < msum (ws.map toW)
  · obtain ⟨l, h1, h2, h3⟩ := lev_some v.okW v.fits.a0 c
    exact .inl ⟨l, h1, h2, h3, c⟩
  · exact .inr ⟨lev_none c, c⟩
/-- with more nobody gets less -/
theorem sh_mono (va : Val a ws) (vb : Val b ws) (h : a ≤ b) (x : WI) : sh a ws x ≤ sh b ws x := by
  have ab : (a : Rat) ≤ (b : Rat) := by exact_mod_cast h
  rcases lv_cases vb with ⟨k, k1, k2, k3, k4⟩ | ⟨k1, k2⟩
  · rcases lv_cases va with ⟨l, l1, l2, l3, l4⟩ | ⟨l1, l2⟩
    · rw [sh_some k1, sh_some l1]
      refine got_mono (lev_le va.okW (by rw [k3]; exact k4) (by rw [l3, k3]; exact ab)) _
    · grind
  · rw [sh_none k1]
    exact sh_le va
/-- with one want more nobody else gets more -/
theorem sh_more {y : WI} (va : Val a ws) (vb : Val a (ws ++ [y])) (x : WI) : sh a (ws ++ [y]) x ≤ sh a ws x := by
  have y0 : (0 : Rat) ≤ (toW y).2 := by show (0 : Rat) ≤ ((y.2 : Nat) : Rat); exact_mod_cast Nat.zero_le _
  have em : msum ((ws ++ [y]).map toW) = msum (ws.map toW) + (toW y).2 := by
    rw [List.map_append, msum_append]; simp only [List.map_cons, List.map_nil, msum]; grind
  rcases lv_cases va with ⟨l, l1, l2, l3, l4⟩ | ⟨l1, l2⟩
  · rcases lv_cases vb with ⟨k, k1, k2, k3, k4⟩ | ⟨k1, k2⟩
    · rw [sh_some k1, sh_some l1]
      have ef : F k ((ws ++ [y]).map toW) = F k (ws.map toW) + got k (toW y) := by
        rw [List.map_append, F_append]; simp only [List.map_cons, List.map_nil, F]; grind
      have g0 := got_nonneg (x := toW y) k2 y0
      exact got_mono (lev_le va.okW (by rw [l3]; exact l4) (by rw [l3]; grind)) _
    · grind
  · rw [sh_none l1]
    exact sh_le vb
/-- who gets less than wanted has no more for a unit of weight than another one -/
theorem sh_fair (v : Val a ws) {x y : WI} (hx : x ∈ ws) (hy : y ∈ ws) (h : sh a ws x < (x.2 : Rat)) : sh a ws y * (x.1 : Rat) ≤ sh a ws x * (y.1 : Rat) := by
  rcases lv_cases v with ⟨l, l1, l2, l3, l4⟩ | ⟨l1, l2⟩
  · rw [sh_some l1] at h ⊢
    rw [sh_some l1]
    have e : got l (toW x) = l * (x.1 : Rat) := by
      unfold got at h ⊢
      by_cases c : l * ((toW x).1 : Rat) < (toW x).2
      · rw [if_pos c]; rfl
      · rw [if_neg c] at h
        have h' : (x.2 : Rat) < (x.2 : Rat) := h
        grind
    have g := got_le2 l (toW y)
    have g' : got l (toW y) ≤ l * (y.1 : Rat) := g
    have x0 : (0 : Rat) ≤ (x.1 : Rat) := by exact_mod_cast Nat.zero_le _
    have := Rat.mul_le_mul_of_nonneg_right g' x0
    rw [e]
    grind
  · rw [sh_none l1] at h
    grind
end
section
variable {h : Hp}
theorem fNe_lv2 {o : Option Rat} : fNe (lvD o) (lvD o) h = .ok (.bl false) h := by
  cases o with
  | none =>
    have p1 : plain .non = true := rfl
    show opt (eqD .non .non) _ = _
    unfold eqD
    rw [p1]
    rfl
  | some l => exact fNe_fr rfl
theorem zip_app {α : Type} (f g : α → D) : ∀ (xs ys : List α), zipD (xs.map f) ((xs ++ ys).map g) = xs.map fun x => .tup [f x, g x]
  | [], ys => by cases ys <;> rfl
  | x :: r, ys => by simp only [List.map_cons, List.cons_append, zipD, zip_app f g r ys]
end
/-- n alike -/
theorem rep_wi (n : Nat) (x : WI) : List.replicate n (wi x) = (List.replicate n x).map wi := by rw [List.map_replicate]
theorem rep_fr (n : Nat) (q : Rat) : List.replicate n (fr q) = (List.replicate n q).map fr := by rw [List.map_replicate]
theorem zero_all : ∀ qs : List Rat, (∀ q ∈ qs, 0 ≤ q) → lsum qs = 0 → ∀ q ∈ qs, q = 0 := by
  intro qs
  induction qs with
  | nil => intro _ _ q hq; cases hq
  | cons x r ih =>
    intro h e q hq
    have h1 := h x (List.mem_cons_self ..)
    have h2 : ∀ y ∈ r, 0 ≤ y := fun y hy => h y (List.mem_cons_of_mem _ hy)
    have h3 : 0 ≤ lsum r := by
      clear ih e hq
      induction r with
      | nil => simp [lsum]
      | cons y r ih2 =>
        have a := h2 y (List.mem_cons_self ..)
        have b := ih2 (fun z hz => by
          rcases List.mem_cons.mp hz with e | hz
          · subst e; exact h1
          · exact h z (List.mem_cons_of_mem _ (List.mem_cons_of_mem _ hz))) (fun z hz => h2 z (List.mem_cons_of_mem _ hz))
        simp only [lsum]; grind
    simp only [lsum] at e
    rcases List.mem_cons.mp hq with z | hq
    · subst z; grind
    · exact ih h2 (by grind) q hq
/-- of nothing nobody gets anything -/
theorem shs_zero {ws : List WI} (v : Val 0 ws) : shs 0 ws = List.replicate ws.length 0 := by
  have s := sh_sum v
  have z := zero_all (shs 0 ws) (fun q hq => by
    obtain ⟨x, hx, rfl⟩ := List.mem_map.mp hq
    exact (sh_sm v hx).nn) (by
      show lsum (ws.map (sh 0 ws)) = 0
      rw [s, msum_toW]
      have e0 : ((0 : Nat) : Rat) = 0 := by norm_cast
      rw [e0]
      split
      · rfl
      · rename_i c
        have : (0 : Rat) ≤ (((ws.map (·.2)).sum : Nat) : Rat) := by exact_mod_cast Nat.zero_le _
        grind)
  have e : shs 0 ws = (shs 0 ws).map fun _ => (0 : Rat) := by
    conv => lhs; rw [← List.map_id (shs 0 ws)]
    exact List.map_congr_left fun q hq => z q hq
  rw [e, List.map_const']
  unfold shs
  rw [List.length_map]
theorem cut_from {α : Type} (xs : List α) (t : Nat) : cut xs (some (t : Int)) none = xs.drop t := by
  unfold cut
  have e1 : sIx xs.length 0 (some (t : Int)) = min t xs.length := by
    show (if (t : Int) < 0 then ((t : Int) + (xs.length : Int)).toNat else min (t : Int).toNat xs.length) = _
    rw [if_neg (by omega), Int.toNat_natCast]
  have e2 : sIx xs.length xs.length none = xs.length := rfl
  rw [e1, e2]
  by_cases c : t ≤ xs.length
  · rw [Nat.min_eq_left c, List.take_of_length_le (by rw [List.length_drop]; omega)]
  · rw [Nat.min_eq_right (by omega), List.drop_eq_nil_of_le (by omega : xs.length ≤ xs.length), List.drop_eq_nil_of_le (by omega : xs.length ≤ t)]
    simp
theorem cut_to {α : Type} (xs : List α) (t : Nat) : cut xs none (some (t : Int)) = xs.take t := by
  unfold cut
  have e1 : sIx xs.length xs.length (some (t : Int)) = min t xs.length := by
    show (if (t : Int) < 0 then ((t : Int) + (xs.length : Int)).toNat else min (t : Int).toNat xs.length) = _
    rw [if_neg (by omega), Int.toNat_natCast]
  have e2 : sIx xs.length 0 none = 0 := rfl
  rw [e1, e2]
  simp only [List.drop_zero, Nat.sub_zero]
  by_cases c : t ≤ xs.length
  · rw [Nat.min_eq_left c]
  · rw [Nat.min_eq_right (by omega), List.take_length, List.take_of_length_le (by omega)]
theorem fSl_from {h : Hp} {xs : List D} {t : Nat} : fSl (.lst xs) (some (t : Int)) none h = .ok (.lst (xs.drop t)) h := by rw [← cut_from]; rfl
theorem fSl_to {h : Hp} {xs : List D} {t : Nat} : fSl (.lst xs) none (some (t : Int)) h = .ok (.lst (xs.take t)) h := by rw [← cut_to]; rfl
theorem fRev_lst {h : Hp} {xs : List D} : fRev (.lst xs) h = .ok (.lst xs.reverse) h := (rfl)
theorem cut_mid {α : Type} (xs : List α) (t k : Nat) (h : t + k ≤ xs.length) : cut xs (some (t : Int)) (some ((t + k : Nat) : Int)) = (xs.drop t).take k := by
  unfold cut
  have e1 : ∀ j : Nat, j ≤ xs.length → ∀ d, sIx xs.length d (some (j : Int)) = j := fun j hj d => by
    show (if (j : Int) < 0 then ((j : Int) + (xs.length : Int)).toNat else min (j : Int).toNat xs.length) = _
    rw [if_neg (by omega), Int.toNat_natCast, Nat.min_eq_left hj]
  rw [e1 t (by omega), e1 (t + k) h]
  congr 1
  omega
theorem fSl_mid {h : Hp} {xs : List D} {t k : Nat} (q : t + k ≤ xs.length) : fSl (.lst xs) (some (t : Int)) (some ((t + k : Nat) : Int)) h = .ok (.lst ((xs.drop t).take k)) h := by rw [← cut_mid xs t k q]; rfl
theorem fIdx_lst {h : Hp} {xs : List D} {i : Nat} {d : D} (q : xs[i]? = some d) : fIdx (.lst xs) (.int (i : Int)) h = .ok d h := by
  show (if 0 ≤ (i : Int) then opt xs[(i : Int).toNat]? fun d => R.ok d h else R.no) = _
  rw [if_pos (by omega), Int.toNat_natCast, q]
  rfl
theorem rng_range : ∀ (n lo : Nat), rng (lo : Int) n = (List.range' lo n).map fun (k : Nat) => D.int (k : Int)
  | 0, _ => rfl
  | n + 1, lo => by
    have r1 : ((lo : Int) + 1) = ((lo + 1 : Nat) : Int) := by push_cast; rfl
    rw [List.range'_succ, List.map_cons]
    show D.int (lo : Int) :: rng ((lo : Int) + 1) n = _
    rw [r1, rng_range n (lo + 1)]
end IP

namespace K09
open PySem (Str PyData)
open IP Sh WF
/-! ### lists that change, evaluated -/
def nd (n : Nat) : D := .int (n : Int)
theorem sum_set : ∀ (l : List Nat) (i v : Nat) (h : i < l.length), (l.set i v).sum + l[i] = l.sum + v
  | [], i, v, h => absurd h (Nat.not_lt_zero _)
  | x :: r, 0, v, _ => by simp; omega
  | x :: r, i + 1, v, h => by
    have := sum_set r i v (by simpa using h)
    simp only [List.set_cons_succ, List.sum_cons, List.getElem_cons_succ]
    omega
section
variable {hb : Hp} {xs ys : List D}
theorem at0 : (hb ++ [O.lst xs, O.lst ys])[hb.length]? = some (.lst xs) := by simp
theorem at1 : (hb ++ [O.lst xs, O.lst ys])[hb.length + 1]? = some (.lst ys) := by
  rw [List.getElem?_append_right (by omega)]
  simp
theorem set0 {o : O} : (hb ++ [O.lst xs, O.lst ys]).set hb.length o = hb ++ [o, O.lst ys] := by
  rw [List.set_append, if_neg (by omega)]
  simp
theorem set1 {o : O} : (hb ++ [O.lst xs, O.lst ys]).set (hb.length + 1) o = hb ++ [O.lst xs, o] := by
  rw [List.set_append, if_neg (by omega)]
  simp
theorem lstAt0 : lstAt (.ref hb.length) (hb ++ [O.lst xs, O.lst ys]) = some (hb.length, xs) := by
  show (match (hb ++ [O.lst xs, O.lst ys])[hb.length]? with
    | some (.lst xs) => some (hb.length, xs)
    | _ => none) = _
  rw [at0]
theorem lstAt1 : lstAt (.ref (hb.length + 1)) (hb ++ [O.lst xs, O.lst ys]) = some (hb.length + 1, ys) := by
  show (match (hb ++ [O.lst xs, O.lst ys])[hb.length + 1]? with
    | some (.lst xs) => some (hb.length + 1, xs)
    | _ => none) = _
  rw [at1]
theorem isL1 : isL (.ref (hb.length + 1)) (hb ++ [O.lst xs, O.lst ys]) = true := by
  show (match (hb ++ [O.lst xs, O.lst ys])[hb.length + 1]? with
    | some (.lst _) => true
    | _ => false) = true
  rw [at1]
theorem lenR1 : fLenR (.ref (hb.length + 1)) (hb ++ [O.lst xs, O.lst ys]) = .ok (.int (ys.length : Int)) (hb ++ [O.lst xs, O.lst ys]) := by
  unfold fLenR
  rw [lstAt1]; rfl
theorem idxR0 {i : Nat} {d : D} (q : xs[i]? = some d) : fIdxR (.ref hb.length) (.int (i : Int)) (hb ++ [O.lst xs, O.lst ys]) = .ok d (hb ++ [O.lst xs, O.lst ys]) := by
  show (if 0 ≤ (i : Int) then opt (lstAt (.ref hb.length) (hb ++ [O.lst xs, O.lst ys])) fun p => opt p.2[(i : Int).toNat]? fun v => R.ok v (hb ++ [O.lst xs, O.lst ys]) else R.no) = _
  rw [if_pos (by omega), lstAt0, Int.toNat_natCast]
  show opt xs[i]? _ = _
  rw [q]; rfl
theorem pop1 {i : Nat} {d : D} (q : ys[i]? = some d) (hi : i ≤ 100000) : fPop (.ref (hb.length + 1)) (.int (i : Int)) (hb ++ [O.lst xs, O.lst ys]) = .ok d (hb ++ [O.lst xs, O.lst (ys.eraseIdx i)]) := by
  show (if 0 ≤ (i : Int) ∧ (i : Int) ≤ 100000 then opt (lstAt (.ref (hb.length + 1)) (hb ++ [O.lst xs, O.lst ys])) fun p => opt p.2[(i : Int).toNat]? fun v => R.ok v ((hb ++ [O.lst xs, O.lst ys]).set p.1 (.lst (p.2.eraseIdx (i : Int).toNat))) else R.no) = _
  rw [if_pos (by omega), lstAt1, Int.toNat_natCast]
  show opt ys[i]? _ = _
  rw [q]
  show R.ok d ((hb ++ [O.lst xs, O.lst ys]).set (hb.length + 1) (.lst (ys.eraseIdx i))) = _
  rw [set1]
theorem put0 {i : Nat} {d : D} (q : i < xs.length) : fSet (.ref hb.length) (.int (i : Int)) d (hb ++ [O.lst xs, O.lst ys]) = .ok .non (hb ++ [O.lst (xs.set i d), O.lst ys]) := by
  show (if 0 ≤ (i : Int) then opt (lstAt (.ref hb.length) (hb ++ [O.lst xs, O.lst ys])) fun p => if (i : Int).toNat < p.2.length then R.ok D.non ((hb ++ [O.lst xs, O.lst ys]).set p.1 (.lst (p.2.set (i : Int).toNat d))) else R.no else R.no) = _
  rw [if_pos (by omega), lstAt0, Int.toNat_natCast]
  show (if i < xs.length then R.ok D.non ((hb ++ [O.lst xs, O.lst ys]).set hb.length (.lst (xs.set i d))) else R.no) = _
  rw [if_pos q, set0]
theorem frz0 {i : Nat} {σ : Lo} (q : σ[i]? = some (some (.ref hb.length))) : sFrz i σ (hb ++ [O.lst xs, O.lst ys]) = .ok (.nxt (σ.set i (some (.lst xs)))) (hb ++ [O.gone, O.lst ys]) := by
  unfold sFrz
  rw [q]
  show (match (hb ++ [O.lst xs, O.lst ys])[hb.length]? with
    | some (.lst xs') => R.ok (Fl.nxt (σ.set i (some (.lst xs')))) ((hb ++ [O.lst xs, O.lst ys]).set hb.length .gone)
    | _ => .no) = _
  rw [at0]
  show R.ok _ ((hb ++ [O.lst xs, O.lst ys]).set hb.length .gone) = _
  rw [set0]
end
@[simp] theorem three_ok {f : D → D → D → Hp → IP.R D} {ea eb ec : E} {σ : Lo} {h : Hp} : three f ea eb ec σ h = (ea σ h).bnd fun x h => (eb σ h).bnd fun y h => (ec σ h).bnd fun z h => f x y z h := (rfl)
@[simp] theorem ePop_ok {o a : E} {σ : Lo} {h : Hp} : ePop o a σ h = (o σ h).bnd fun x h => if isL x h then (a σ h).bnd fun d h => fPop x d h else .no := (rfl)
@[simp] theorem sSub_ok {o i e : E} {σ : Lo} {h : Hp} : sSub o i e σ h = (e σ h).stm σ fun v h => (o σ h).stm σ fun x h => (i σ h).stm σ fun d h => (fSet x d v h).calm.stm σ fun _ h => .ok (.nxt σ) h := (rfl)
theorem min3_nat {i j k : Nat} {h : Hp} : fMin3 (nd i) (nd j) (nd k) h = .ok (nd (min (min i j) k)) h := by
  show R.ok (D.int _) h = _
  congr 2
  show _ = ((min (min i j) k : Nat) : Int)
  split <;> split <;> omega
theorem min_nat {i j : Nat} {h : Hp} : fMin (nd i) (nd j) h = .ok (nd (min i j)) h := by
  show R.ok (D.int _) h = _
  congr 2
  show _ = ((min i j : Nat) : Int)
  split <;> omega
theorem sub_nat {i j : Nat} {h : Hp} (q : j ≤ i) : fSub (nd i) (nd j) h = .ok (nd (i - j)) h := by
  show R.ok (D.int _) h = _
  congr 2
  show (i : Int) - (j : Int) = ((i - j : Nat) : Int)
  omega
theorem add_nat {i j : Nat} {h : Hp} : fAdd (nd i) (nd j) h = .ok (nd (i + j)) h := by
  show R.ok (D.int _) h = _
  congr 2
theorem map_erase : ∀ (l : List Nat) (i : Nat), (l.map nd).eraseIdx i = (l.eraseIdx i).map nd
  | [], _ => rfl
  | x :: r, 0 => rfl
  | x :: r, i + 1 => by simp only [List.map_cons, List.eraseIdx_cons_succ, map_erase r i]
/-! ### the other parting -/
def Fine (ws : List WI) (ot : List Nat) : Prop := ot.length = ws.length ∧ ∀ i, (h1 : i < ot.length) → (h2 : i < ws.length) → ot[i] ≤ ws[i].2
theorem Fine.set {ws : List WI} {ot : List Nat} (f : Fine ws ot) {i v : Nat} (h : (h2 : i < ws.length) → v ≤ ws[i].2) : Fine ws (ot.set i v) := by
  refine ⟨by rw [List.length_set]; exact f.1, fun j h1 h2 => ?_⟩
  rw [List.length_set] at h1
  by_cases c : i = j
  · subst c; rw [List.getElem_set_self]; exact h h2
  · rw [List.getElem_set_ne c]; exact f.2 j h1 h2
abbrev L1 : S := bCons (sAsg (gLoc 12) (ePop (eLoc 10) (eCall 3 f__law_pick (aCons (eLoc 0) (aCons (two fAdd (two fAdd (eCst (D.int (30 : Int))) (two fMul (eCst (D.int (20 : Int))) (eLoc 7))) (eLoc 11)) (aCons (one fLenR (eLoc 10)) aNil))))))
 (bCons (sSub (eLoc 9) (eLoc 12) (three fMin3 (eLoc 8) (two fIdx (two fIdx (eLoc 3) (eLoc 12)) (eCst (D.int (1 : Int)))) (eCall 3 f__law_pick (aCons (eLoc 0) (aCons (two fAdd (two fAdd (eCst (D.int (40 : Int))) (two fMul (eCst (D.int (20 : Int))) (eLoc 7))) (eLoc 11)) (aCons (eCst (D.int (40 : Int))) aNil))))))
 (bCons (sAsg (gLoc 8) (two fSub (eLoc 8) (two fIdxR (eLoc 9) (eLoc 12))))
 bNil))
abbrev L2 : S := bCons (sAsg (gLoc 13) (two fMin (eLoc 8) (two fSub (two fIdx (two fIdx (eLoc 3) (eLoc 12)) (eCst (D.int (1 : Int)))) (two fIdxR (eLoc 9) (eLoc 12)))))
 (bCons (sSub (eLoc 9) (eLoc 12) (two fAdd (two fIdxR (eLoc 9) (eLoc 12)) (eLoc 13)))
 (bCons (sAsg (gLoc 8) (two fSub (eLoc 8) (eLoc 13)))
 bNil))
section
variable {ns : List Int} (hns : ns.length ≤ 63) {ws : List WI} {a turn : Nat} {hb : Hp} {s1 s2 s5 s6 s14 s15 s16 s17 s18 s19 : Option D}
abbrev st (ns : List Int) (ws : List WI) (a turn : Nat) (hb : Hp) (s1 s2 s5 s6 s14 s15 s16 s17 s18 s19 : Option D) (left : Nat) (o11 o12 o13 : Option D) : Lo :=
  [some (scr ns), s1, s2, some (.lst (ws.map wi)), some (nd a), s5, s6, some (nd turn), some (nd left), some (.ref hb.length), some (.ref (hb.length + 1)), o11, o12, o13, s14, s15, s16, s17, s18, s19]
include hns in
theorem loop1 (ht : turn < 10) : ∀ (r lo left : Nat) (ot od : List Nat) (o11 o12 o13 : Option D), lo + r ≤ 20 → od.length = r → od.Nodup → (∀ i ∈ od, i < ws.length ∧ ot[i]? = some 0) → Fine ws ot → left + ot.sum = a →
    ∃ (left' : Nat) (ot' : List Nat) (o11' o12' : Option D), forGo (gLoc 11) L1 (rng (lo : Int) r) (st ns ws a turn hb s1 s2 s5 s6 s14 s15 s16 s17 s18 s19 left o11 o12 o13) (hb ++ [.lst (ot.map nd), .lst (od.map nd)]) =
      .ok (.nxt (st ns ws a turn hb s1 s2 s5 s6 s14 s15 s16 s17 s18 s19 left' o11' o12' o13)) (hb ++ [.lst (ot'.map nd), .lst []]) ∧ Fine ws ot' ∧ left' + ot'.sum = a
  | 0, lo, left, ot, od, o11, o12, o13, _, hl, _, _, hf, hs => by
    have : od = [] := List.length_eq_zero_iff.mp hl
    subst this
    exact ⟨left, ot, o11, o12, rfl, hf, hs⟩
  | r + 1, lo, left, ot, od, o11, o12, o13, hlo, hl, nd', hz, hf, hs => by
    obtain ⟨v, bv, pv⟩ := pick_eq ns hns (30 + 20 * turn + lo) (r + 1) (by omega) (by omega)
    obtain ⟨u, bu, pu⟩ := pick_eq ns hns (40 + 20 * turn + lo) 40 (by decide) (by omega)
    have vl : v < od.length := by omega
    obtain ⟨hat, hz0⟩ := hz od[v] (List.getElem_mem vl)
    generalize ha : od[v] = at_ at hat hz0
    have al : at_ < ot.length := by rw [hf.1]; exact hat
    have z0 : ot[at_] = 0 := by
      have := List.getElem?_eq_getElem al
      rw [this] at hz0
      exact Option.some.inj hz0
    generalize hm : min (min left ws[at_].2) u = m
    have m1 : m ≤ left := by omega
    have m2 : m ≤ ws[at_].2 := by omega
    have ss := sum_set ot at_ m al
    rw [z0] at ss
    obtain ⟨left', ot', o11', o12', e, f1, f2⟩ := loop1 ht r (lo + 1) (left - m) (ot.set at_ m) (od.eraseIdx v) (some (nd lo)) (some (nd at_)) o13 (by omega) (by rw [List.length_eraseIdx, if_pos vl, hl]; rfl) (List.Nodup.sublist (List.eraseIdx_sublist ..) nd') (fun i hi => by
      have hi' := List.mem_of_mem_eraseIdx hi
      obtain ⟨q1, q2⟩ := hz i hi'
      refine ⟨q1, ?_⟩
      have ne : at_ ≠ i := by
        intro z
        rw [← z, ← ha] at hi
        obtain ⟨k, hk1, hk2⟩ := List.mem_iff_getElem.mp hi
        rw [List.getElem_eraseIdx] at hk2
        rw [List.length_eraseIdx, if_pos vl] at hk1
        by_cases c : k < v
        · rw [dif_pos c] at hk2
          have := (List.getElem_inj nd').mp hk2
          omega
        · rw [dif_neg c] at hk2
          have := (List.getElem_inj nd').mp hk2
          omega
      rw [List.getElem?_set_ne ne]; exact q2) (hf.set fun _ => m2) (by omega)
    refine ⟨left', ot', o11', o12', ?_, f1, f2⟩
    have c1 : ((30 : Int) + 20 * (turn : Int) + (lo : Int)) = ((30 + 20 * turn + lo : Nat) : Int) := by push_cast; rfl
    have c2 : ((40 : Int) + 20 * (turn : Int) + (lo : Int)) = ((40 + 20 * turn + lo : Nat) : Int) := by push_cast; rfl
    have M := fun h => fMul_int (h := h) (i := 20) (j := (turn : Int)) (mulOk_l (by decide))
    have lenE : (od.map nd).length = r + 1 := by rw [List.length_map, hl]
    have P := pop1 (hb := hb) (xs := ot.map nd) (ys := od.map nd) (i := v) (d := nd at_) (by rw [List.getElem?_map, List.getElem?_eq_getElem vl, ha]; rfl) (by omega)
    have eE : (od.map nd).eraseIdx v = (od.eraseIdx v).map nd := map_erase _ _
    rw [eE] at P
    have X := fun h => fIdx_lst (h := h) (xs := ws.map wi) (i := at_) (d := wi ws[at_]) (by rw [List.getElem?_map, List.getElem?_eq_getElem hat]; rfl)
    have X1 : ∀ h, fIdx (wi ws[at_]) (.int 1) h = .ok (nd ws[at_].2) h := fun h => rfl
    have MN := fun h => min3_nat (i := left) (j := ws[at_].2) (k := u) (h := h)
    rw [hm] at MN
    have PU := fun od' : List D => put0 (hb := hb) (xs := ot.map nd) (ys := od') (i := at_) (d := nd m) (by rw [List.length_map]; exact al)
    have sE : (ot.map nd).set at_ (nd m) = (ot.set at_ m).map nd := by rw [List.map_set]
    rw [sE] at PU
    have RD := fun od' : List D => idxR0 (hb := hb) (xs := (ot.set at_ m).map nd) (ys := od') (i := at_) (d := nd m) (by rw [List.getElem?_map, List.getElem?_set_self al]; rfl)
    have SB := fun h => sub_nat (i := left) (j := m) (h := h) m1
    show forGo _ _ (.int (lo : Int) :: rng ((lo : Int) + 1) r) _ _ = _
    rw [forGo_cons]
    have nI : ∀ k : Nat, D.int (k : Int) = nd k := fun _ => rfl
    have pv' : ∀ h, f__law_pick [scr ns, .int ((30 + 20 * turn + lo : Nat) : Int), .int ((r + 1 : Nat) : Int)] h = .ok (nd v) h := pv
    have pu' : ∀ h, f__law_pick [scr ns, .int ((40 + 20 * turn + lo : Nat) : Int), .int 40] h = .ok (nd u) h := pu
    have LR : fLenR (.ref (hb.length + 1)) (hb ++ [.lst (ot.map nd), .lst (od.map nd)]) = .ok (.int ((r + 1 : Nat) : Int)) (hb ++ [.lst (ot.map nd), .lst (od.map nd)]) := by rw [lenR1, lenE]
    have P' : fPop (.ref (hb.length + 1)) (nd v) (hb ++ [.lst (ot.map nd), .lst (od.map nd)]) = .ok (nd at_) (hb ++ [.lst (ot.map nd), .lst ((od.eraseIdx v).map nd)]) := P
    have X' : ∀ h, fIdx (.lst (ws.map wi)) (nd at_) h = .ok (wi ws[at_]) h := X
    have PU' : ∀ od' : List D, fSet (.ref hb.length) (nd at_) (nd m) (hb ++ [.lst (ot.map nd), .lst od']) = .ok .non (hb ++ [.lst ((ot.set at_ m).map nd), .lst od']) := PU
    have RD' : ∀ od' : List D, fIdxR (.ref hb.length) (nd at_) (hb ++ [.lst ((ot.set at_ m).map nd), .lst od']) = .ok (nd m) (hb ++ [.lst ((ot.set at_ m).map nd), .lst od']) := RD
    have A1 : ∀ h, ((fMul (.int 20) (nd turn) h).bnd fun y h => fAdd (.int 30) y h).bnd (fun x h => fAdd x (nd lo) h) = .ok (.int ((30 + 20 * turn + lo : Nat) : Int)) h := fun h => by
      show ((fMul (.int 20) (.int (turn : Int)) h).bnd fun y h => fAdd (.int 30) y h).bnd (fun x h => fAdd x (.int (lo : Int)) h) = _
      rw [M h]
      simp only [bnd_ok, fAdd_int, c1]
    have A2 : ∀ h, ((fMul (.int 20) (nd turn) h).bnd fun y h => fAdd (.int 40) y h).bnd (fun x h => fAdd x (nd lo) h) = .ok (.int ((40 + 20 * turn + lo : Nat) : Int)) h := fun h => by
      show ((fMul (.int 20) (.int (turn : Int)) h).bnd fun y h => fAdd (.int 40) y h).bnd (fun x h => fAdd x (.int (lo : Int)) h) = _
      rw [M h]
      simp only [bnd_ok, fAdd_int, c2]
    simp only [nI, st, L1, gLoc_ok, calm_ok, stm_ok, List.set_cons_succ, List.set_cons_zero]
    rw [bCons_ok, sAsg_ok]
    simp only [ePop_ok, eLoc_0, eLoc_s, bnd_ok, isL1, if_true, eCall_ok, aCons_ok, aNil_ok, two_ok, one_ok, eCst_ok, A1, LR, List.length_cons, List.length_nil, Nat.reduceAdd, pv', P', stm_ok, gLoc_ok, calm_ok, List.set_cons_succ, List.set_cons_zero, thn_nxt]
    rw [bCons_ok, sSub_ok]
    simp only [three_ok, two_ok, eCall_ok, aCons_ok, aNil_ok, eLoc_0, eLoc_s, eCst_ok, bnd_ok, X', X1, A2, List.length_cons, List.length_nil, Nat.reduceAdd, if_true, pu', MN, stm_ok, PU', calm_ok, thn_nxt]
    simp only [bCons_ok, sAsg_ok, two_ok, eLoc_0, eLoc_s, bnd_ok, RD', SB, stm_ok, gLoc_ok, calm_ok, List.set_cons_succ, List.set_cons_zero, thn_nxt, bNil_ok, trn_nxt]
    have r1 : ((lo : Int) + 1) = ((lo + 1 : Nat) : Int) := by push_cast; rfl
    rw [r1]
    exact e
theorem loop2 : ∀ (r lo left : Nat) (ot : List Nat) (o11 o12 o13 : Option D), lo + r = ws.length → Fine ws ot → left + ot.sum = a → (∀ i, (h1 : i < ot.length) → (h2 : i < ws.length) → i < lo → left = 0 ∨ ot[i] = ws[i].2) →
    ∃ (left' : Nat) (ot' : List Nat) (o12' o13' : Option D), forGo (gLoc 12) L2 (rng (lo : Int) r) (st ns ws a turn hb s1 s2 s5 s6 s14 s15 s16 s17 s18 s19 left o11 o12 o13) (hb ++ [.lst (ot.map nd), .lst []]) =
      .ok (.nxt (st ns ws a turn hb s1 s2 s5 s6 s14 s15 s16 s17 s18 s19 left' o11 o12' o13')) (hb ++ [.lst (ot'.map nd), .lst []]) ∧ Fine ws ot' ∧ left' + ot'.sum = a ∧ (∀ i, (h1 : i < ot'.length) → (h2 : i < ws.length) → left' = 0 ∨ ot'[i] = ws[i].2)
  | 0, lo, left, ot, o11, o12, o13, hlo, hf, hs, hd => ⟨left, ot, o12, o13, rfl, hf, hs, fun i h1 h2 => hd i h1 h2 (by omega)⟩
  | r + 1, lo, left, ot, o11, o12, o13, hlo, hf, hs, hd => by
    have hat : lo < ws.length := by omega
    have al : lo < ot.length := by rw [hf.1]; exact hat
    have le := hf.2 lo al hat
    generalize hm : min left (ws[lo].2 - ot[lo]) = m
    have ss := sum_set ot lo (ot[lo] + m) al
    obtain ⟨left', ot', o12', o13', e, f1, f2, f3⟩ := loop2 r (lo + 1) (left - m) (ot.set lo (ot[lo] + m)) o11 (some (nd lo)) (some (nd m)) (by omega) (hf.set fun _ => by omega) (by omega) (fun i h1 h2 h3 => by
      by_cases c : lo = i
      · subst c
        rw [List.getElem_set_self]
        omega
      · rw [List.getElem_set_ne c]
        rw [List.length_set] at h1
        have := hd i h1 h2 (by omega)
        omega)
    refine ⟨left', ot', o12', o13', ?_, f1, f2, f3⟩
    have nI : ∀ k : Nat, D.int (k : Int) = nd k := fun _ => rfl
    have X' : ∀ h, fIdx (.lst (ws.map wi)) (nd lo) h = .ok (wi ws[lo]) h := fun h => fIdx_lst (by rw [List.getElem?_map, List.getElem?_eq_getElem hat]; rfl)
    have X1 : ∀ h, fIdx (wi ws[lo]) (.int 1) h = .ok (nd ws[lo].2) h := fun h => rfl
    have R0 : fIdxR (.ref hb.length) (nd lo) (hb ++ [.lst (ot.map nd), .lst []]) = .ok (nd ot[lo]) (hb ++ [.lst (ot.map nd), .lst []]) := idxR0 (by rw [List.getElem?_map, List.getElem?_eq_getElem al]; rfl)
    have SB := fun h => sub_nat (i := ws[lo].2) (j := ot[lo]) (h := h) le
    have MN := fun h => min_nat (i := left) (j := ws[lo].2 - ot[lo]) (h := h)
    rw [hm] at MN
    have AD := fun h => add_nat (i := ot[lo]) (j := m) (h := h)
    have PU : fSet (.ref hb.length) (nd lo) (nd (ot[lo] + m)) (hb ++ [.lst (ot.map nd), .lst []]) = .ok .non (hb ++ [.lst ((ot.set lo (ot[lo] + m)).map nd), .lst []]) := by
      have := put0 (hb := hb) (xs := ot.map nd) (ys := []) (i := lo) (d := nd (ot[lo] + m)) (by rw [List.length_map]; exact al)
      rw [← List.map_set] at this
      exact this
    have SL := fun h => sub_nat (i := left) (j := m) (h := h) (by omega)
    show forGo _ _ (.int (lo : Int) :: rng ((lo : Int) + 1) r) _ _ = _
    rw [forGo_cons]
    simp only [nI, st, L2, gLoc_ok, calm_ok, stm_ok, List.set_cons_succ, List.set_cons_zero]
    rw [bCons_ok, sAsg_ok]
    simp only [two_ok, eLoc_0, eLoc_s, eCst_ok, bnd_ok, X', X1, R0, SB, MN, stm_ok, gLoc_ok, calm_ok, List.set_cons_succ, List.set_cons_zero, thn_nxt]
    rw [bCons_ok, sSub_ok]
    simp only [two_ok, eLoc_0, eLoc_s, bnd_ok, R0, AD, stm_ok, PU, calm_ok, thn_nxt]
    simp only [bCons_ok, sAsg_ok, two_ok, eLoc_0, eLoc_s, bnd_ok, SL, stm_ok, gLoc_ok, calm_ok, List.set_cons_succ, List.set_cons_zero, thn_nxt, bNil_ok, trn_nxt]
    have r1 : ((lo : Int) + 1) = ((lo + 1 : Nat) : Int) := by push_cast; rfl
    rw [r1]
    exact e
end
/-! ### the mathematics: a parting against the level's -/
theorem enm_map {α : Type} (f : α → D) : ∀ (xs : List α) (k : Nat), enmD k (xs.map f) = (xs.zipIdx k).map fun p => .tup [nd p.2, f p.1]
  | [], _ => rfl
  | x :: r, k => by
    simp only [List.map_cons, enmD, List.zipIdx_cons, enm_map f r (k + 1)]
    rfl
theorem zip_zip {α β : Type} (f : α → D) (g : β → D) : ∀ (xs : List α) (ys : List β), zipD (xs.map f) (ys.map g) = (xs.zip ys).map fun p => .tup [f p.1, g p.2]
  | [], ys => by cases ys <;> rfl
  | x :: r, [] => rfl
  | x :: r, y :: ys => by simp only [List.map_cons, zipD, List.zip_cons_cons, zip_zip f g r ys]
/-- sums of two lists, place by place -/
theorem sums_eq : ∀ (P : List Rat) (O : List Nat), P.length = O.length → (∀ i, (h1 : i < P.length) → (h2 : i < O.length) → (O[i] : Rat) ≤ P[i]) → IP.lsum P ≤ ((O.sum : Nat) : Rat) → ∀ i, (h1 : i < P.length) → (h2 : i < O.length) → (O[i] : Rat) = P[i]
  | [], O, _, _, _, i, h1, _ => absurd h1 (Nat.not_lt_zero _)
  | p :: P, [], hl, _, _, i, _, h2 => absurd h2 (Nat.not_lt_zero _)
  | p :: P, o :: O, hl, h, hs, i, h1, h2 => by
    have ge : ∀ (P : List Rat) (O : List Nat), P.length = O.length → (∀ i, (h1 : i < P.length) → (h2 : i < O.length) → (O[i] : Rat) ≤ P[i]) → ((O.sum : Nat) : Rat) ≤ IP.lsum P := by
      intro P
      induction P with
      | nil => intro O hl _; have : O = [] := List.length_eq_zero_iff.mp hl.symm; subst this; simp [IP.lsum]
      | cons p P ih =>
        intro O hl h
        cases O with
        | nil => cases hl
        | cons o O =>
          have a := h 0 (by simp) (by simp)
          have b := ih O (by simpa using hl) (fun i h1 h2 => h (i + 1) (by simpa using h1) (by simpa using h2))
          simp only [List.getElem_cons_zero] at a
          simp only [IP.lsum, List.sum_cons]
          push_cast
          grind
    have h0 := h 0 (by simp) (by simp)
    simp only [List.getElem_cons_zero] at h0
    have ht : ∀ i, (h1 : i < P.length) → (h2 : i < O.length) → (O[i] : Rat) ≤ P[i] := fun i h1 h2 => h (i + 1) (by simpa using h1) (by simpa using h2)
    have g := ge P O (by simpa using hl) ht
    simp only [IP.lsum, List.sum_cons] at hs
    push_cast at hs
    cases i with
    | zero => simp only [List.getElem_cons_zero]; grind
    | succ i =>
      simp only [List.getElem_cons_succ]
      exact sums_eq P O (by simpa using hl) ht (by grind) i (by simpa using h1) (by simpa using h2)
theorem sums_eq2 : ∀ (P : List Rat) (O : List Nat), P.length = O.length → (∀ i, (h1 : i < P.length) → (h2 : i < O.length) → P[i] ≤ (O[i] : Rat)) → ((O.sum : Nat) : Rat) ≤ IP.lsum P → ∀ i, (h1 : i < P.length) → (h2 : i < O.length) → (O[i] : Rat) = P[i]
  | [], O, _, _, _, i, h1, _ => absurd h1 (Nat.not_lt_zero _)
  | p :: P, [], hl, _, _, i, _, h2 => absurd h2 (Nat.not_lt_zero _)
  | p :: P, o :: O, hl, h, hs, i, h1, h2 => by
    have ge : ∀ (P : List Rat) (O : List Nat), P.length = O.length → (∀ i, (h1 : i < P.length) → (h2 : i < O.length) → P[i] ≤ (O[i] : Rat)) → IP.lsum P ≤ ((O.sum : Nat) : Rat) := by
      intro P
      induction P with
      | nil => intro O hl _; have : O = [] := List.length_eq_zero_iff.mp hl.symm; subst this; simp [IP.lsum]
      | cons p P ih =>
        intro O hl h
        cases O with
        | nil => cases hl
        | cons o O =>
          have a := h 0 (by simp) (by simp)
          have b := ih O (by simpa using hl) (fun i h1 h2 => h (i + 1) (by simpa using h1) (by simpa using h2))
          simp only [List.getElem_cons_zero] at a
          simp only [IP.lsum, List.sum_cons]
          push_cast
          grind
    have h0 := h 0 (by simp) (by simp)
    simp only [List.getElem_cons_zero] at h0
    have ht : ∀ i, (h1 : i < P.length) → (h2 : i < O.length) → P[i] ≤ (O[i] : Rat) := fun i h1 h2 => h (i + 1) (by simpa using h1) (by simpa using h2)
    have g := ge P O (by simpa using hl) ht
    simp only [IP.lsum, List.sum_cons] at hs
    push_cast at hs
    cases i with
    | zero => simp only [List.getElem_cons_zero]; grind
    | succ i =>
      simp only [List.getElem_cons_succ]
      exact sums_eq2 P O (by simpa using hl) ht (by grind) i (by simpa using h1) (by simpa using h2)
end K09

namespace K09
open PySem (Str PyData)
open IP Sh WF
/-! ### what a parting is like -/
section
variable {a : Nat} {ws : List WI} {l : Rat} {ot : List Nat} (v : Val a ws) (e : lv a ws = some l) (f : Fine ws ot) (hs : ot.sum = a)
theorem shs_len : (shs a ws).length = ws.length := by unfold shs; rw [List.length_map]
theorem shs_at {i : Nat} (h1 : i < (shs a ws).length) (h2 : i < ws.length) : (shs a ws)[i] = sh a ws ws[i] := List.getElem_map (l := ws) (f := sh a ws) (i := i) (h := h1)
include v e in
theorem shs_sum : IP.lsum (shs a ws) = (a : Rat) := by
  show IP.lsum (ws.map (sh a ws)) = _
  rw [sh_sum v]
  rcases lv_cases v with ⟨k, k1, k2, k3, k4⟩ | ⟨k1, k2⟩
  · rw [if_pos k4]
  · rw [k1] at e; cases e
include v e in
theorem lt_all : a < (ws.map (·.2)).sum := by
  rcases lv_cases v with ⟨k, k1, k2, k3, k4⟩ | ⟨k1, k2⟩
  · rw [msum_toW] at k4; exact_mod_cast k4
  · rw [k1] at e; cases e
include v e f hs in
theorem some_short : ∃ p ∈ ws.zip ot, p.2 < p.1.2 ∧ ¬ l < (p.2 : Rat) / (p.1.1 : Rat) := by
  refine Classical.byContradiction fun n => ?_
  have h : ∀ i, (h1 : i < ot.length) → (h2 : i < ws.length) → ot[i] < ws[i].2 → l * (ws[i].1 : Rat) < (ot[i] : Rat) := fun i h1 h2 lt => by
    refine Classical.byContradiction fun m => n ⟨(ws[i], ot[i]), ?_, lt, ?_⟩
    · exact List.mem_iff_getElem.mpr ⟨i, by rw [List.length_zip]; omega, List.getElem_zip⟩
    · intro z
      have w1 := (v.ok ws[i] (List.getElem_mem h2)).1
      have wp : (0 : Rat) < (ws[i].1 : Rat) := by exact_mod_cast w1
      have := Rat.mul_lt_mul_of_pos_right z wp
      have d := div_mul (x := ot[i]) (y := ws[i].1) w1
      simp only at this
      rw [d] at this
      exact m this
  have g : ∀ i, (h1 : i < (shs a ws).length) → (h2 : i < ot.length) → (shs a ws)[i] ≤ (ot[i] : Rat) := fun i h1 h2 => by
    have h3 : i < ws.length := by rw [← shs_len]; exact h1
    rw [shs_at h1 h3, sh_some e]
    have a1 := got_le l (toW ws[i])
    have a2 := got_le2 l (toW ws[i])
    by_cases c : ot[i] < ws[i].2
    · have := h i h2 h3 c
      have a2' : got l (toW ws[i]) ≤ l * (ws[i].1 : Rat) := a2
      grind
    · have le := f.2 i h2 h3
      have a1' : got l (toW ws[i]) ≤ (ws[i].2 : Rat) := a1
      have : (ws[i].2 : Rat) = (ot[i] : Rat) := by exact_mod_cast (by omega : ws[i].2 = ot[i])
      grind
  have eq := sums_eq2 (shs a ws) ot (by rw [shs_len, f.1]) g (by rw [shs_sum v e, hs]; exact Rat.le_refl)
  have all : ∀ i, (h1 : i < ot.length) → (h2 : i < ws.length) → ot[i] = ws[i].2 := fun i h1 h2 => by
    refine Classical.byContradiction fun m => ?_
    have le := f.2 i h1 h2
    have lt : ot[i] < ws[i].2 := by omega
    have q := eq i (by rw [shs_len]; exact h2) h1
    rw [shs_at _ h2, sh_some e] at q
    have a2 : got l (toW ws[i]) ≤ l * (ws[i].1 : Rat) := got_le2 l (toW ws[i])
    have := h i h1 h2 lt
    grind
  have : ot = ws.map (·.2) := List.ext_getElem (by rw [List.length_map]; exact f.1) fun i h1 h2 => by
    rw [List.getElem_map]
    exact all i h1 (by rw [List.length_map] at h2; exact h2)
  have lt := lt_all v e
  rw [← this, hs] at lt
  omega
def betterL (a : Nat) (ws : List WI) (ot : List Nat) : List Nat := ((ot.zipIdx 0).filter fun p => decide ((shs a ws).getD p.2 0 < (p.1 : Rat))).map (·.2)
def worseL (a : Nat) (ws : List WI) (ot : List Nat) : List Nat := ((ot.zipIdx 0).filter fun p => decide ((p.1 : Rat) < (shs a ws).getD p.2 0)).map (·.2)
theorem getD_at {i : Nat} (h2 : i < ws.length) : (shs a ws).getD i 0 = sh a ws ws[i] := by
  rw [List.getD_eq_getElem?_getD, List.getElem?_eq_getElem (by rw [shs_len]; exact h2)]
  exact shs_at _ h2
include f in
theorem mem_better {k : Nat} (h : k ∈ betterL a ws ot) : ∃ (h1 : k < ot.length) (h2 : k < ws.length), sh a ws ws[k] < (ot[k] : Rat) := by
  obtain ⟨p, hp, rfl⟩ := List.mem_map.mp h
  obtain ⟨q1, q2⟩ := List.mem_filter.mp hp
  obtain ⟨x, i⟩ := p
  have q3 := List.mem_zipIdx_iff_getElem?.mp q1
  obtain ⟨h1, h2⟩ := List.getElem?_eq_some_iff.mp q3
  have h3 : i < ws.length := by rw [← f.1]; exact h1
  have q4 := of_decide_eq_true q2
  rw [getD_at h3, ← h2] at q4
  exact ⟨h1, h3, q4⟩
include f in
theorem mem_worse {k : Nat} (h : k ∈ worseL a ws ot) : ∃ (h1 : k < ot.length) (h2 : k < ws.length), (ot[k] : Rat) < sh a ws ws[k] := by
  obtain ⟨p, hp, rfl⟩ := List.mem_map.mp h
  obtain ⟨q1, q2⟩ := List.mem_filter.mp hp
  obtain ⟨x, i⟩ := p
  have q3 := List.mem_zipIdx_iff_getElem?.mp q1
  obtain ⟨h1, h2⟩ := List.getElem?_eq_some_iff.mp q3
  have h3 : i < ws.length := by rw [← f.1]; exact h1
  have q4 := of_decide_eq_true q2
  rw [getD_at h3, ← h2] at q4
  exact ⟨h1, h3, q4⟩
include f in
theorem better_nil (h : betterL a ws ot = []) : ∀ i, (h1 : i < ot.length) → (h2 : i < ws.length) → (ot[i] : Rat) ≤ sh a ws ws[i] := fun i h1 h2 => by
  refine Classical.byContradiction fun n => ?_
  have : i ∈ betterL a ws ot := List.mem_map.mpr ⟨(ot[i], i), List.mem_filter.mpr ⟨List.mem_zipIdx_iff_getElem?.mpr (List.getElem?_eq_getElem h1), decide_eq_true (by rw [getD_at h2]; show sh a ws ws[i] < (ot[i] : Rat); grind)⟩, rfl⟩
  rw [h] at this; cases this
include f in
theorem worse_nil (h : worseL a ws ot = []) : ∀ i, (h1 : i < ot.length) → (h2 : i < ws.length) → sh a ws ws[i] ≤ (ot[i] : Rat) := fun i h1 h2 => by
  refine Classical.byContradiction fun n => ?_
  have : i ∈ worseL a ws ot := List.mem_map.mpr ⟨(ot[i], i), List.mem_filter.mpr ⟨List.mem_zipIdx_iff_getElem?.mpr (List.getElem?_eq_getElem h1), decide_eq_true (by rw [getD_at h2]; show (ot[i] : Rat) < sh a ws ws[i]; grind)⟩, rfl⟩
  rw [h] at this; cases this
include v e f hs in
theorem both_nil : (betterL a ws ot).isEmpty = (worseL a ws ot).isEmpty := by
  have s := shs_sum v e
  by_cases c : betterL a ws ot = []
  · have g := sums_eq (shs a ws) ot (by rw [shs_len, f.1]) (fun i h1 h2 => by
      have h3 : i < ws.length := by rw [← shs_len]; exact h1
      rw [shs_at h1 h3]; exact better_nil f c i h2 h3) (by rw [s, hs]; exact Rat.le_refl)
    have w : worseL a ws ot = [] := by
      cases q : worseL a ws ot with
      | nil => rfl
      | cons k r =>
        obtain ⟨h1, h2, h3⟩ := mem_worse f (k := k) (by rw [q]; exact List.mem_cons_self ..)
        have := g k (by rw [shs_len]; exact h2) h1
        rw [shs_at _ h2] at this
        grind
    rw [c, w]
  · by_cases d : worseL a ws ot = []
    · have g := sums_eq2 (shs a ws) ot (by rw [shs_len, f.1]) (fun i h1 h2 => by
        have h3 : i < ws.length := by rw [← shs_len]; exact h1
        rw [shs_at h1 h3]; exact worse_nil f d i h2 h3) (by rw [s, hs]; exact Rat.le_refl)
      have w : betterL a ws ot = [] := by
        cases q : betterL a ws ot with
        | nil => rfl
        | cons k r =>
          obtain ⟨h1, h2, h3⟩ := mem_better f (k := k) (by rw [q]; exact List.mem_cons_self ..)
          have := g k (by rw [shs_len]; exact h2) h1
          rw [shs_at _ h2] at this
          grind
      exact absurd w c
    · cases q : betterL a ws ot with
      | nil => exact absurd q c
      | cons k r =>
        cases q2 : worseL a ws ot with
        | nil => exact absurd q2 d
        | cons k2 r2 => rfl
include v e f in
theorem worse_lt {k j : Nat} (hk : k ∈ betterL a ws ot) (hj : j ∈ worseL a ws ot) : ∃ (h1 : k < ws.length) (h2 : j < ws.length) (h3 : j < ot.length), (ot[j] : Rat) * (ws[k].1 : Rat) / (ws[j].1 : Rat) < sh a ws ws[k] := by
  obtain ⟨k1, k2, k3⟩ := mem_better f hk
  obtain ⟨j1, j2, j3⟩ := mem_worse f hj
  refine ⟨k2, j2, j1, ?_⟩
  have wk := (v.ok ws[k] (List.getElem_mem k2)).1
  have wj := (v.ok ws[j] (List.getElem_mem j2)).1
  have pk : (0 : Rat) < (ws[k].1 : Rat) := by exact_mod_cast wk
  have pj : (0 : Rat) < (ws[j].1 : Rat) := by exact_mod_cast wj
  have le := f.2 k k1 k2
  have le' : (ot[k] : Rat) ≤ (ws[k].2 : Rat) := by exact_mod_cast le
  rw [sh_some e] at k3 j3 ⊢
  have gk : got l (toW ws[k]) = l * (ws[k].1 : Rat) := by
    have q : got l (toW ws[k]) < (ws[k].2 : Rat) := by grind
    unfold got at q ⊢
    by_cases c : l * ((toW ws[k]).1 : Rat) < (toW ws[k]).2
    · rw [if_pos c]; rfl
    · rw [if_neg c] at q
      have q' : (ws[k].2 : Rat) < (ws[k].2 : Rat) := q
      grind
  have gj : got l (toW ws[j]) ≤ l * (ws[j].1 : Rat) := got_le2 l (toW ws[j])
  rw [gk]
  refine Classical.byContradiction fun n => ?_
  have n' : l * (ws[k].1 : Rat) ≤ (ot[j] : Rat) * (ws[k].1 : Rat) / (ws[j].1 : Rat) := by grind
  have a1 := Rat.mul_le_mul_of_nonneg_right n' (Rat.le_of_lt pj)
  have a2 : (ot[j] : Rat) * (ws[k].1 : Rat) / (ws[j].1 : Rat) * (ws[j].1 : Rat) = (ot[j] : Rat) * (ws[k].1 : Rat) := by
    have : (ws[j].1 : Rat) ≠ 0 := by grind
    grind
  have a3 := Rat.mul_lt_mul_of_pos_right (show (ot[j] : Rat) < l * (ws[j].1 : Rat) by grind) pk
  grind
end
end K09

namespace K09
open PySem (Str PyData)
open IP Sh WF
theorem le_sum : ∀ (l : List Nat) (x : Nat), x ∈ l → x ≤ l.sum
  | [], x, h => (by cases h)
  | y :: r, x, h => by
    rw [List.sum_cons]
    rcases List.mem_cons.mp h with e | h
    · subst e; omega
    · have := le_sum r x h; omega
theorem nds_iK (xs : List Nat) : iK 1 (.lst (xs.map nd)) = true := lst_iK (k := 0) (iKs_all.mpr fun d hd => by
  obtain ⟨x, _, rfl⟩ := List.mem_map.mp hd
  rfl)
theorem eq_nil {xs : List Nat} {h : Hp} : fEq (.lst (xs.map nd)) (.lst []) h = .ok (.bl xs.isEmpty) h := by
  cases xs with
  | nil => exact fEq_yes (nds_iK []) (show iK 1 (.lst []) = true from rfl) (by decide) rfl
  | cons x r => exact fEq_no (nds_iK (x :: r)) (show iK 1 (.lst []) = true from rfl) (by decide) (by intro z; injection z with z; cases z)
/-- short ones, as pairs -/
def pw (p : WI × Nat) : D := .tup [nd p.2, nd p.1.1]
theorem pws_iK (xs : List (WI × Nat)) : iK 2 (.lst (xs.map pw)) = true := lst_iK (k := 1) (iKs_all.mpr fun d hd => by
  obtain ⟨x, _, rfl⟩ := List.mem_map.mp hd
  rfl)
abbrev BODY : S := (bCons (sAsg (gTup 2 (gCons (gLoc 8) (gCons (gLoc 9) gNil))) (eTup (aCons (eLoc 4) (aCons (eNewMul (eLst (aCons (eCst (D.int (0 : Int))) aNil)) (one fLen (eLoc 3))) aNil))))
 (bCons (sAsg (gLoc 10) (eNewRng (one fLen (eLoc 3))))
 (bCons (sFor (gLoc 11) (iRng (one fLen (eLoc 3))) L1)
 (bCons (sFor (gLoc 12) (iRng (one fLen (eLoc 3))) L2)
 (bCons (sIf (tVal (two fGt (eLoc 8) (eCst (D.int (0 : Int)))))
 (bCons (sRet (eCst (D.bl false)))
 bNil)
 bNil)
 (bCons (sFrz 9)
 (bCons (sAsg (gLoc 15) (eLc [14, 1, 2] (gTup 2 (gCons (gTup 2 (gCons (gLoc 1) (gCons (gLoc 2) gNil))) (gCons (gLoc 14) gNil))) (iZip (eLoc 3) (eLoc 9)) (tVal (two fLt (eLoc 14) (eLoc 2))) (eTup (aCons (eLoc 14) (aCons (eLoc 1) aNil)))))
 (bCons (sIf (tOr (tVal (two fEq (eLoc 15) (eLst aNil))) (tVal (one fAll (eLc [16] (gLoc 16) (iSeq (eLoc 15)) tYes (eCall 2 f__law_less (aCons (eLoc 6) (aCons (eLoc 16) aNil)))))))
 (bCons (sRet (eCst (D.bl false)))
 bNil)
 bNil)
 (bCons (sAsg (gLoc 17) (eLc [11, 14] (gTup 2 (gCons (gLoc 11) (gCons (gLoc 14) gNil))) (iEnm (eLoc 9)) (tVal (eCall 2 f__law_less (aCons (two fIdx (eLoc 5) (eLoc 11)) (aCons (eTup (aCons (eLoc 14) (aCons (eCst (D.int (1 : Int))) aNil))) aNil)))) (eLoc 11)))
 (bCons (sAsg (gLoc 18) (eLc [11, 14] (gTup 2 (gCons (gLoc 11) (gCons (gLoc 14) gNil))) (iEnm (eLoc 9)) (tVal (eCall 2 f__law_less (aCons (eTup (aCons (eLoc 14) (aCons (eCst (D.int (1 : Int))) aNil))) (aCons (two fIdx (eLoc 5) (eLoc 11)) aNil)))) (eLoc 11)))
 (bCons (sIf (tVal (two fNe (two fEq (eLoc 17) (eLst aNil)) (two fEq (eLoc 18) (eLst aNil))))
 (bCons (sRet (eCst (D.bl false)))
 bNil)
 bNil)
 (bCons (sFor (gLoc 11) (iSeq (eLoc 17))
 (bCons (sIf (tVal (two fEq (eLc [19] (gLoc 19) (iSeq (eLoc 18)) (tVal (eCall 2 f__law_less (aCons (eTup (aCons (two fMul (two fIdx (eLoc 9) (eLoc 19)) (two fIdx (two fIdx (eLoc 3) (eLoc 11)) (eCst (D.int (0 : Int))))) (aCons (two fIdx (two fIdx (eLoc 3) (eLoc 19)) (eCst (D.int (0 : Int)))) aNil))) (aCons (two fIdx (eLoc 5) (eLoc 11)) aNil)))) (eLoc 19)) (eLst aNil)))
 (bCons (sRet (eCst (D.bl false)))
 bNil)
 bNil)
 bNil))
 bNil))))))))))))
section
variable {ns : List Int} (hns : ns.length ≤ 63) {ws : List WI} {a : Nat} {l : Rat} (v : Val a ws) (a60 : a ≤ 60) (wl : ws.length ≤ 12) (e : lv a ws = some l)
include hns v a60 wl e
theorem turn (t : Nat) (ht : t < 10) (hb : Hp) (s1 s2 o8 o9 o10 o11 o12 o13 o14 o15 o16 o17 o18 o19 : Option D) : ∃ (hb' : Hp) (o8' o9' o10' o11' o12' o13' o14' o15' o16' o17' o18' o19' : Option D),
    BODY [some (scr ns), s1, s2, some (.lst (ws.map wi)), some (nd a), some (.lst ((shs a ws).map fr)), some (lvD (lv a ws)), some (nd t), o8, o9, o10, o11, o12, o13, o14, o15, o16, o17, o18, o19] hb =
      .ok (.nxt [some (scr ns), s1, s2, some (.lst (ws.map wi)), some (nd a), some (.lst ((shs a ws).map fr)), some (lvD (lv a ws)), some (nd t), o8', o9', o10', o11', o12', o13', o14', o15', o16', o17', o18', o19']) hb' := by
  have lw : ∀ h, fLen (.lst (ws.map wi)) h = .ok (.int (ws.length : Int)) h := fun h => by rw [fLen_lst, List.length_map]
  have NM : ∀ h : Hp, (fMul (.lst [.int 0]) (.int (ws.length : Int)) h).bnd newOf = .ok (.ref h.length) (h ++ [.lst ((List.replicate ws.length 0).map nd)]) := fun h => by
    have R1 := fMul_rep (h := h) (d := .int 0) (n := ws.length) (by omega)
    rw [R1, bnd_ok, List.map_replicate]
    rfl
  have NR : ∀ (σ : Lo) (h : Hp), σ[3]? = some (some (.lst (ws.map wi))) → eNewRng (one fLen (eLoc 3)) σ h = .ok (.ref h.length) (h ++ [.lst ((List.range' 0 ws.length).map nd)]) := fun σ h q => by
    unfold eNewRng
    rw [one_ok, eLoc_ok q, bnd_ok, lw, bnd_ok]
    show (if (decide (0 ≤ (ws.length : Int)) && decide ((ws.length : Int) ≤ 100000)) = true then R.ok (D.ref h.length) (h ++ [O.lst (rng 0 (ws.length : Int).toNat)]) else R.no) = _
    rw [if_pos (by simp; omega), Int.toNat_natCast]
    have := rng_range ws.length 0
    show R.ok _ (h ++ [O.lst (rng ((0 : Nat) : Int) ws.length)]) = _
    rw [this]
    rfl
  have IR : ∀ (σ : Lo) (h : Hp), σ[3]? = some (some (.lst (ws.map wi))) → iRng (one fLen (eLoc 3)) σ h = .ok (rng ((0 : Nat) : Int) ws.length) h := fun σ h q => iRng_ok (by rw [one_ok, eLoc_ok q, bnd_ok, lw]) (by omega)
  have hl : (hb ++ [O.lst ((List.replicate ws.length 0).map nd)]).length = hb.length + 1 := by simp
  have h2 : hb ++ [O.lst ((List.replicate ws.length 0).map nd)] ++ [O.lst ((List.range' 0 ws.length).map nd)] = hb ++ [O.lst ((List.replicate ws.length 0).map nd), O.lst ((List.range' 0 ws.length).map nd)] := by simp
  have f0 : Fine ws (List.replicate ws.length 0) := ⟨List.length_replicate, fun i h1 h2 => by rw [List.getElem_replicate]; exact Nat.zero_le _⟩
  obtain ⟨le1, ot1, p11, p12, E1, f1, q1⟩ := loop1 (ns := ns) (ws := ws) (a := a) (turn := t) (hb := hb) (s1 := s1) (s2 := s2) (s5 := some (.lst ((shs a ws).map fr))) (s6 := some (lvD (lv a ws))) (s14 := o14) (s15 := o15) (s16 := o16) (s17 := o17) (s18 := o18) (s19 := o19) hns ht ws.length 0 a (List.replicate ws.length 0) (List.range' 0 ws.length) o11 o12 o13 (by omega) (by simp) (List.nodup_range' ..) (fun i hi => by
    have : i < ws.length := by have := List.mem_range'.mp hi; omega
    exact ⟨this, by rw [List.getElem?_replicate, if_pos this]⟩) f0 (by simp)
  obtain ⟨le2, ot, p12', p13', E2, f2, q2, d2⟩ := loop2 (ns := ns) (ws := ws) (a := a) (turn := t) (hb := hb) (s1 := s1) (s2 := s2) (s5 := some (.lst ((shs a ws).map fr))) (s6 := some (lvD (lv a ws))) (s14 := o14) (s15 := o15) (s16 := o16) (s17 := o17) (s18 := o18) (s19 := o19) ws.length 0 le1 ot1 p11 p12 o13 (by omega) f1 q1 (fun i _ _ z => absurd z (Nat.not_lt_zero _))
  have z2 : le2 = 0 := by
    refine Classical.byContradiction fun n => ?_
    have : ot = ws.map (·.2) := List.ext_getElem (by rw [List.length_map]; exact f2.1) fun i h1 h2 => by
      rw [List.getElem_map]
      have := d2 i h1 (by rw [List.length_map] at h2; exact h2)
      rcases this with z | z
      · exact absurd z n
      · exact z
    have lt := lt_all v e
    rw [← this] at lt
    omega
  subst z2
  have hs : ot.sum = a := by omega
  rw [st, st] at E1 E2
  -- the comprehensions
  generalize hH : hb ++ [O.gone, O.lst []] = H
  have sl := ((level_eq (h := []) v.fits).2 l e).1
  have ob : ∀ i, (h1 : i < ot.length) → ot[i] ≤ 60 := fun i h1 => by
    have : ot[i] ≤ ot.sum := le_sum _ _ (List.getElem_mem h1)
    omega
  have zm : ∀ p ∈ ws.zip ot, p.1 ∈ ws ∧ p.2 ≤ 60 := fun p hp => by
    obtain ⟨i, hi, rfl⟩ := List.mem_iff_getElem.mp hp
    rw [List.length_zip] at hi
    rw [List.getElem_zip]
    exact ⟨List.getElem_mem _, ob i (by omega)⟩
  have zl : (ws.zip ot).length ≤ 12 := by rw [List.length_zip]; omega
  have LC1 : ∀ q14, eLc [14, 1, 2] (gTup 2 (gCons (gTup 2 (gCons (gLoc 1) (gCons (gLoc 2) gNil))) (gCons (gLoc 14) gNil))) (iZip (eLoc 3) (eLoc 9)) (tVal (two fLt (eLoc 14) (eLoc 2))) (eTup (aCons (eLoc 14) (aCons (eLoc 1) aNil)))
      [some (scr ns), s1, s2, some (.lst (ws.map wi)), some (nd a), some (.lst ((shs a ws).map fr)), some (lvD (lv a ws)), some (nd t), some (nd 0), some (.lst (ot.map nd)), some (.ref (hb.length + 1)), p11, p12', p13', q14, o15, o16, o17, o18, o19] H =
      .ok (.lst (((ws.zip ot).filter fun p => decide (p.2 < p.1.2)).map pw)) H := fun q14 => by
    refine eLc_map (u := fun p => .tup [wi p.1, nd p.2]) (p := fun p => decide (p.2 < p.1.2)) (v := pw) (xs := ws.zip ot) ?_ (fun p hp => ?_) (by omega)
    · rw [iZip_lst]
      simp only [eLoc_0, eLoc_s, bnd_ok, zip_zip]
    · have dc : decide ((p.2 : Int) < (p.1.2 : Int)) = decide (p.2 < p.1.2) := by rw [decide_eq_decide]; omega
      simp only [lcTurn, wi, nd, gTup_ok, List.length_cons, List.length_nil, Nat.reduceAdd, if_true, gCons_ok, gLoc_ok, bnd_ok, gNil_ok, wipe_cons, wipe_nil, List.set_cons_succ, List.set_cons_zero, tVal_ok, two_ok, eLoc_0, eLoc_s, fCmp_int, dc]
      by_cases c : p.2 < p.1.2
      · simp only [decide_eq_true c, if_true, eTup_ok, aCons_ok, aNil_ok, eLoc_0, eLoc_s, bnd_ok, List.length_cons, List.length_nil, Nat.reduceAdd, Nat.reduceLeDiff, calm_ok]
        rfl
      · simp only [decide_eq_false c, Bool.false_eq_true, if_false, calm_ok]
  generalize hsh : (ws.zip ot).filter (fun p => decide (p.2 < p.1.2)) = shl at LC1
  have shm : ∀ p ∈ shl, p ∈ ws.zip ot := fun p hp => by rw [← hsh] at hp; exact (List.mem_filter.mp hp).1
  obtain ⟨p0, hp0, hp1, hp2⟩ := some_short v e f2 hs
  have p0s : p0 ∈ shl := by rw [← hsh]; exact List.mem_filter.mpr ⟨hp0, decide_eq_true hp1⟩
  have ne : shl ≠ [] := fun z => by rw [z] at p0s; cases p0s
  have N15 : fEq (.lst (shl.map pw)) (.lst []) H = .ok (.bl false) H := fEq_no (pws_iK shl) (show iK 2 (.lst []) = true from rfl) (by decide) (by
    intro z; injection z with z; exact ne (List.map_eq_nil_iff.mp z))
  have LC2 : ∀ q14, eLc [16] (gLoc 16) (iSeq (eLoc 15)) tYes (eCall 2 f__law_less (aCons (eLoc 6) (aCons (eLoc 16) aNil)))
      [some (scr ns), s1, s2, some (.lst (ws.map wi)), some (nd a), some (.lst ((shs a ws).map fr)), some (lvD (lv a ws)), some (nd t), some (nd 0), some (.lst (ot.map nd)), some (.ref (hb.length + 1)), p11, p12', p13', q14, some (.lst (shl.map pw)), o16, o17, o18, o19] H =
      .ok (.lst (shl.map fun p => D.bl (decide (l < (p.2 : Rat) / (p.1.1 : Rat))))) H := fun q14 => by
    refine eLc_all (u := pw) (xs := shl) rfl (fun p hp => ?_) (by
      have := List.length_filter_le (fun p : WI × Nat => decide (p.2 < p.1.2)) (ws.zip ot)
      rw [hsh] at this; omega)
    have zz := zm p (shm p hp)
    have okp := v.ok p.1 zz.1
    have L := less_pr (h := H) (t := l.num) (u := (p.2 : Int)) (b := l.den) (c := p.1.1) (p := l) (q := (p.2 : Rat) / (p.1.1 : Rat)) l.den_pos okp.1 (num_den l) (by rw [div_mul okp.1]; rfl)
      (mulOk_r (small_of_abs (by rw [Int.natAbs_natCast]; omega))) (mulOk_l (small_of_abs (by rw [Int.natAbs_natCast]; omega)))
    have L' : f__law_less [lvD (lv a ws), pw p] H = .ok (.bl (decide (l < (p.2 : Rat) / (p.1.1 : Rat)))) H := by rw [e]; exact L
    simp only [lcTurn, gLoc_ok, bnd_ok, wipe_cons, wipe_nil, List.set_cons_succ, List.set_cons_zero, tYes_ok, if_true, eCall_ok, aCons_ok, aNil_ok, eLoc_0, eLoc_s, List.length_cons, List.length_nil, Nat.reduceAdd, L', calm_ok]
  have AL := fAll_map (h := H) (fun p : WI × Nat => decide (l < (p.2 : Rat) / (p.1.1 : Rat))) shl
  have af : shl.all (fun p : WI × Nat => decide (l < (p.2 : Rat) / (p.1.1 : Rat))) = false := by
    rw [List.all_eq_false]
    exact ⟨p0, p0s, by rw [decide_eq_true_eq]; exact hp2⟩
  rw [af] at AL
  -- who is better off, who worse
  have zi : ∀ p ∈ ot.zipIdx 0, ∃ (h1 : p.2 < ot.length) (h2 : p.2 < ws.length), p.1 = ot[p.2] := fun p hp => by
    have q3 := List.mem_zipIdx_iff_getElem?.mp hp
    obtain ⟨h1, h2⟩ := List.getElem?_eq_some_iff.mp q3
    exact ⟨h1, by rw [← f2.1]; exact h1, h2.symm⟩
  have PX : ∀ i, (h2 : i < ws.length) → fIdx (.lst ((shs a ws).map fr)) (nd i) H = .ok (fr (sh a ws ws[i])) H := fun i h2 => fIdx_lst (by
    rw [List.getElem?_map, List.getElem?_eq_getElem (by rw [shs_len]; exact h2), shs_at _ h2]; rfl)
  have zlen : (ot.zipIdx 0).length ≤ 12 := by rw [List.length_zipIdx, f2.1]; exact wl
  have LC3 : ∀ q14 q17 q18 q19, eLc [11, 14] (gTup 2 (gCons (gLoc 11) (gCons (gLoc 14) gNil))) (iEnm (eLoc 9)) (tVal (eCall 2 f__law_less (aCons (two fIdx (eLoc 5) (eLoc 11)) (aCons (eTup (aCons (eLoc 14) (aCons (eCst (D.int (1 : Int))) aNil))) aNil)))) (eLoc 11)
      [some (scr ns), s1, s2, some (.lst (ws.map wi)), some (nd a), some (.lst ((shs a ws).map fr)), some (lvD (lv a ws)), some (nd t), some (nd 0), some (.lst (ot.map nd)), some (.ref (hb.length + 1)), p11, p12', p13', q14, some (.lst (shl.map pw)), o16, q17, q18, q19] H =
      .ok (.lst ((betterL a ws ot).map nd)) H := fun q14 q17 q18 q19 => by
    unfold betterL
    rw [List.map_map]
    refine eLc_map (u := fun p : Nat × Nat => .tup [nd p.2, nd p.1]) (p := fun p => decide ((shs a ws).getD p.2 0 < (p.1 : Rat))) (v := nd ∘ fun p : Nat × Nat => p.2) (xs := ot.zipIdx 0) ?_ (fun p hp => ?_) (by omega)
    · show (eLoc 9 _ H).bnd _ = _
      simp only [eLoc_0, eLoc_s, bnd_ok, enm_map]
    · obtain ⟨h1, h2, h3⟩ := zi p hp
      have s64 := sh_64 v (List.getElem_mem h2)
      have o60 := ob p.2 h1
      have L := less_pr (h := H) (t := (sh a ws ws[p.2]).num) (u := (p.1 : Int)) (b := (sh a ws ws[p.2]).den) (c := 1) (p := sh a ws ws[p.2]) (q := (p.1 : Rat)) (Rat.den_pos _) (by decide) (num_den _) (by push_cast; grind) (mulOk_r (by decide)) (mulOk_l (small_of_abs (by rw [Int.natAbs_natCast]; omega)))
      have L' : f__law_less [fr (sh a ws ws[p.2]), .tup [nd p.1, .int 1]] H = .ok (.bl (decide ((shs a ws).getD p.2 0 < (p.1 : Rat)))) H := by rw [getD_at h2]; exact L
      simp only [lcTurn, gTup_ok, List.length_cons, List.length_nil, Nat.reduceAdd, if_true, gCons_ok, gLoc_ok, bnd_ok, gNil_ok, wipe_cons, wipe_nil, List.set_cons_succ, List.set_cons_zero, tVal_ok, eCall_ok, aCons_ok, aNil_ok, two_ok, eTup_ok, eLoc_0, eLoc_s, eCst_ok, PX p.2 h2, Nat.reduceLeDiff, L']
      by_cases c : (shs a ws).getD p.2 0 < (p.1 : Rat)
      · simp only [decide_eq_true c, if_true, eLoc_0, eLoc_s, bnd_ok, calm_ok]; rfl
      · simp only [decide_eq_false c, Bool.false_eq_true, if_false, calm_ok]
  have LC4 : ∀ q14 q17 q18 q19, eLc [11, 14] (gTup 2 (gCons (gLoc 11) (gCons (gLoc 14) gNil))) (iEnm (eLoc 9)) (tVal (eCall 2 f__law_less (aCons (eTup (aCons (eLoc 14) (aCons (eCst (D.int (1 : Int))) aNil))) (aCons (two fIdx (eLoc 5) (eLoc 11)) aNil)))) (eLoc 11)
      [some (scr ns), s1, s2, some (.lst (ws.map wi)), some (nd a), some (.lst ((shs a ws).map fr)), some (lvD (lv a ws)), some (nd t), some (nd 0), some (.lst (ot.map nd)), some (.ref (hb.length + 1)), p11, p12', p13', q14, some (.lst (shl.map pw)), o16, q17, q18, q19] H =
      .ok (.lst ((worseL a ws ot).map nd)) H := fun q14 q17 q18 q19 => by
    unfold worseL
    rw [List.map_map]
    refine eLc_map (u := fun p : Nat × Nat => .tup [nd p.2, nd p.1]) (p := fun p => decide ((p.1 : Rat) < (shs a ws).getD p.2 0)) (v := nd ∘ fun p : Nat × Nat => p.2) (xs := ot.zipIdx 0) ?_ (fun p hp => ?_) (by omega)
    · show (eLoc 9 _ H).bnd _ = _
      simp only [eLoc_0, eLoc_s, bnd_ok, enm_map]
    · obtain ⟨h1, h2, h3⟩ := zi p hp
      have s64 := sh_64 v (List.getElem_mem h2)
      have o60 := ob p.2 h1
      have L := less_pr (h := H) (t := (p.1 : Int)) (u := (sh a ws ws[p.2]).num) (b := 1) (c := (sh a ws ws[p.2]).den) (p := (p.1 : Rat)) (q := sh a ws ws[p.2]) (by decide) (Rat.den_pos _) (by push_cast; grind) (num_den _) (mulOk_l (small_of_abs (by rw [Int.natAbs_natCast]; omega))) (mulOk_r (by decide))
      have L' : f__law_less [.tup [nd p.1, .int 1], fr (sh a ws ws[p.2])] H = .ok (.bl (decide ((p.1 : Rat) < (shs a ws).getD p.2 0))) H := by rw [getD_at h2]; exact L
      simp only [lcTurn, gTup_ok, List.length_cons, List.length_nil, Nat.reduceAdd, if_true, gCons_ok, gLoc_ok, bnd_ok, gNil_ok, wipe_cons, wipe_nil, List.set_cons_succ, List.set_cons_zero, tVal_ok, eCall_ok, aCons_ok, aNil_ok, two_ok, eTup_ok, eLoc_0, eLoc_s, eCst_ok, PX p.2 h2, Nat.reduceLeDiff, L']
      by_cases c : (p.1 : Rat) < (shs a ws).getD p.2 0
      · simp only [decide_eq_true c, if_true, eLoc_0, eLoc_s, bnd_ok, calm_ok]; rfl
      · simp only [decide_eq_false c, Bool.false_eq_true, if_false, calm_ok]
  have BN := both_nil v e f2 hs
  -- each of the better ones
  have wL : (worseL a ws ot).length ≤ 12 := by
    unfold worseL
    rw [List.length_map]
    have := List.length_filter_le (fun p : Nat × Nat => decide ((p.1 : Rat) < (shs a ws).getD p.2 0)) (ot.zipIdx 0)
    omega
  have LOOP : ∀ (ks : List Nat) (q11 q14 q17 q18 q19 : Option D), (∀ k ∈ ks, k ∈ betterL a ws ot) → ∃ q11' : Option D, forGo (gLoc 11)
      (bCons (sIf (tVal (two fEq (eLc [19] (gLoc 19) (iSeq (eLoc 18)) (tVal (eCall 2 f__law_less (aCons (eTup (aCons (two fMul (two fIdx (eLoc 9) (eLoc 19)) (two fIdx (two fIdx (eLoc 3) (eLoc 11)) (eCst (D.int (0 : Int))))) (aCons (two fIdx (two fIdx (eLoc 3) (eLoc 19)) (eCst (D.int (0 : Int)))) aNil))) (aCons (two fIdx (eLoc 5) (eLoc 11)) aNil)))) (eLoc 19)) (eLst aNil)))
      (bCons (sRet (eCst (D.bl false))) bNil) bNil) bNil) (ks.map nd)
      [some (scr ns), s1, s2, some (.lst (ws.map wi)), some (nd a), some (.lst ((shs a ws).map fr)), some (lvD (lv a ws)), some (nd t), some (nd 0), some (.lst (ot.map nd)), some (.ref (hb.length + 1)), q11, p12', p13', q14, some (.lst (shl.map pw)), o16, q17, some (.lst ((worseL a ws ot).map nd)), q19] H =
      .ok (.nxt [some (scr ns), s1, s2, some (.lst (ws.map wi)), some (nd a), some (.lst ((shs a ws).map fr)), some (lvD (lv a ws)), some (nd t), some (nd 0), some (.lst (ot.map nd)), some (.ref (hb.length + 1)), q11', p12', p13', q14, some (.lst (shl.map pw)), o16, q17, some (.lst ((worseL a ws ot).map nd)), q19]) H := by
    intro ks
    induction ks with
    | nil => intro q11 q14 q17 q18 q19 _; exact ⟨q11, rfl⟩
    | cons k r ih =>
      intro q11 q14 q17 q18 q19 hk
      obtain ⟨q11', E⟩ := ih (some (nd k)) q14 q17 q18 q19 (fun z hz => hk z (List.mem_cons_of_mem _ hz))
      refine ⟨q11', ?_⟩
      have kb := hk k (List.mem_cons_self ..)
      obtain ⟨k1, k2, k3⟩ := mem_better f2 kb
      have kok := v.ok ws[k] (List.getElem_mem k2)
      have s64 := sh_64 v (List.getElem_mem k2)
      have WX : ∀ i, (h2 : i < ws.length) → fIdx (.lst (ws.map wi)) (nd i) H = .ok (wi ws[i]) H := fun i h2 => fIdx_lst (by rw [List.getElem?_map, List.getElem?_eq_getElem h2]; rfl)
      have W0 : ∀ i, (h2 : i < ws.length) → fIdx (wi ws[i]) (.int 0) H = .ok (nd ws[i].1) H := fun i h2 => rfl
      have OX : ∀ i, (h1 : i < ot.length) → fIdx (.lst (ot.map nd)) (nd i) H = .ok (nd ot[i]) H := fun i h1 => fIdx_lst (by rw [List.getElem?_map, List.getElem?_eq_getElem h1]; rfl)
      have LC5 : eLc [19] (gLoc 19) (iSeq (eLoc 18)) (tVal (eCall 2 f__law_less (aCons (eTup (aCons (two fMul (two fIdx (eLoc 9) (eLoc 19)) (two fIdx (two fIdx (eLoc 3) (eLoc 11)) (eCst (D.int (0 : Int))))) (aCons (two fIdx (two fIdx (eLoc 3) (eLoc 19)) (eCst (D.int (0 : Int)))) aNil))) (aCons (two fIdx (eLoc 5) (eLoc 11)) aNil)))) (eLoc 19)
          [some (scr ns), s1, s2, some (.lst (ws.map wi)), some (nd a), some (.lst ((shs a ws).map fr)), some (lvD (lv a ws)), some (nd t), some (nd 0), some (.lst (ot.map nd)), some (.ref (hb.length + 1)), some (nd k), p12', p13', q14, some (.lst (shl.map pw)), o16, q17, some (.lst ((worseL a ws ot).map nd)), q19] H =
          .ok (.lst ((worseL a ws ot).map nd)) H := by
        refine eLc_map (u := nd) (p := fun _ => true) (v := nd) (xs := worseL a ws ot) rfl (fun j hj => ?_) (by omega) |>.trans ?_
        · obtain ⟨j1, j2, j3⟩ := mem_worse f2 hj
          have jok := v.ok ws[j] (List.getElem_mem j2)
          have o60 := ob j j1
          obtain ⟨_, _, _, lt⟩ := worse_lt v e f2 kb hj
          have M : fMul (nd ot[j]) (nd ws[k].1) H = .ok (nd (ot[j] * ws[k].1)) H := by
            have := fMul_int (h := H) (i := (ot[j] : Int)) (j := (ws[k].1 : Int)) (mulOk_l (small_of_abs (by rw [Int.natAbs_natCast]; omega)))
            have c : ((ot[j] : Int) * (ws[k].1 : Int)) = ((ot[j] * ws[k].1 : Nat) : Int) := by push_cast; rfl
            rw [c] at this
            exact this
          have pb : ot[j] * ws[k].1 ≤ 60 * 100 := Nat.mul_le_mul o60 kok.2.1
          have L := less_pr (h := H) (t := ((ot[j] * ws[k].1 : Nat) : Int)) (u := (sh a ws ws[k]).num) (b := ws[j].1) (c := (sh a ws ws[k]).den) (p := ((ot[j] * ws[k].1 : Nat) : Rat) / (ws[j].1 : Rat)) (q := sh a ws ws[k]) jok.1 (Rat.den_pos _) (by rw [div_mul jok.1]; rfl) (num_den _)
            (mulOk_l (small_of_abs (by rw [Int.natAbs_natCast]; omega))) (mulOk_r (small_of_abs (by rw [Int.natAbs_natCast]; omega)))
          have lt' : ((ot[j] * ws[k].1 : Nat) : Rat) / (ws[j].1 : Rat) < sh a ws ws[k] := by push_cast; exact lt
          rw [decide_eq_true lt'] at L
          have L' : f__law_less [.tup [nd (ot[j] * ws[k].1), nd ws[j].1], fr (sh a ws ws[k])] H = .ok (.bl true) H := L
          simp only [lcTurn, gLoc_ok, bnd_ok, wipe_cons, wipe_nil, List.set_cons_succ, List.set_cons_zero, tVal_ok, eCall_ok, aCons_ok, aNil_ok, two_ok, eTup_ok, eLoc_0, eLoc_s, eCst_ok, OX j j1, WX k k2, W0 k k2, M, WX j j2, W0 j j2, PX k k2, List.length_cons, List.length_nil, Nat.reduceAdd, Nat.reduceLeDiff, if_true, L', calm_ok]
        · rw [List.filter_eq_self.mpr (fun _ _ => rfl)]
      have wne : (worseL a ws ot).isEmpty = false := by
        rw [← BN]
        cases q : betterL a ws ot with
        | nil => rw [q] at kb; cases kb
        | cons x y => rfl
      have EN := eq_nil (xs := worseL a ws ot) (h := H)
      rw [wne] at EN
      rw [List.map_cons, forGo_cons]
      simp only [gLoc_ok, calm_ok, stm_ok, List.set_cons_succ, List.set_cons_zero, bCons_ok, sIf_ok, tVal_ok, two_ok, eLst_ok, aNil_ok, LC5, bnd_ok, List.length_nil, Nat.zero_le, if_true, EN, Bool.false_eq_true, if_false, bNil_ok, thn_nxt, trn_nxt]
      exact E
  obtain ⟨q11, E5⟩ := LOOP (betterL a ws ot) p11 o14 (some (.lst ((betterL a ws ot).map nd))) none o19 (fun _ h => h)
  refine ⟨H, some (nd 0), some (.lst (ot.map nd)), some (.ref (hb.length + 1)), q11, p12', p13', o14, some (.lst (shl.map pw)), o16, some (.lst ((betterL a ws ot).map nd)), some (.lst ((worseL a ws ot).map nd)), o19, ?_⟩
  have FZ := frz0 (hb := hb) (xs := ot.map nd) (ys := []) (i := 9) (σ := [some (scr ns), s1, s2, some (.lst (ws.map wi)), some (nd a), some (.lst ((shs a ws).map fr)), some (lvD (lv a ws)), some (nd t), some (nd 0), some (.ref hb.length), some (.ref (hb.length + 1)), p11, p12', p13', o14, o15, o16, o17, o18, o19]) rfl
  rw [hH] at FZ
  have EB := eq_nil (xs := betterL a ws ot) (h := H)
  have EW := eq_nil (xs := worseL a ws ot) (h := H)
  have bw : (!((betterL a ws ot).isEmpty == (worseL a ws ot).isEmpty)) = false := by rw [BN]; simp
  unfold BODY
  rw [bCons_ok, sAsg_ok, eTup_ok]
  simp only [aCons_ok, aNil_ok, eLoc_0, eLoc_s, bnd_ok]
  have NM' : eNewMul (eLst (aCons (eCst (D.int (0 : Int))) aNil)) (one fLen (eLoc 3)) [some (scr ns), s1, s2, some (.lst (ws.map wi)), some (nd a), some (.lst ((shs a ws).map fr)), some (lvD (lv a ws)), some (nd t), o8, o9, o10, o11, o12, o13, o14, o15, o16, o17, o18, o19] hb = .ok (.ref hb.length) (hb ++ [.lst ((List.replicate ws.length 0).map nd)]) := by
    unfold eNewMul
    simp only [eLst_ok, aCons_ok, aNil_ok, eCst_ok, bnd_ok, List.length_cons, List.length_nil, Nat.reduceAdd, Nat.reduceLeDiff, if_true, one_ok, eLoc_0, eLoc_s, lw, NM]
  simp only [NM', bnd_ok, List.length_cons, List.length_nil, Nat.reduceAdd, Nat.reduceLeDiff, if_true, stm_ok, gTup_ok, gCons_ok, gLoc_ok, gNil_ok, calm_ok, List.set_cons_succ, List.set_cons_zero, thn_nxt]
  rw [bCons_ok, sAsg_ok, NR _ _ rfl, hl, h2]
  simp only [stm_ok, gLoc_ok, calm_ok, List.set_cons_succ, List.set_cons_zero, thn_nxt]
  rw [bCons_ok, sFor_ok, IR _ _ rfl, stm_ok, E1, thn_nxt, bCons_ok, sFor_ok, IR _ _ rfl, stm_ok, E2, thn_nxt]
  have g0 : fGt (nd 0) (.int 0) (hb ++ [.lst (ot.map nd), .lst []]) = .ok (.bl false) (hb ++ [.lst (ot.map nd), .lst []]) := rfl
  rw [bCons_ok, sIf_ok]
  simp only [tVal_ok, two_ok, eLoc_0, eLoc_s, eCst_ok, bnd_ok, g0, stm_ok, Bool.false_eq_true, if_false, bNil_ok, thn_nxt]
  rw [bCons_ok, FZ, thn_nxt]
  simp only [List.set_cons_succ, List.set_cons_zero]
  rw [bCons_ok, sAsg_ok, LC1]
  simp only [stm_ok, gLoc_ok, calm_ok, List.set_cons_succ, List.set_cons_zero, thn_nxt]
  rw [bCons_ok, sIf_ok]
  simp only [tOr_ok, tVal_ok, two_ok, one_ok, eLst_ok, aNil_ok, eLoc_0, eLoc_s, bnd_ok, List.length_nil, Nat.zero_le, if_true, N15, Bool.false_eq_true, if_false, LC2, AL, stm_ok, bNil_ok, thn_nxt]
  rw [bCons_ok, sAsg_ok, LC3]
  simp only [stm_ok, gLoc_ok, calm_ok, List.set_cons_succ, List.set_cons_zero, thn_nxt]
  rw [bCons_ok, sAsg_ok, LC4]
  simp only [stm_ok, gLoc_ok, calm_ok, List.set_cons_succ, List.set_cons_zero, thn_nxt]
  rw [bCons_ok, sIf_ok]
  simp only [tVal_ok, two_ok, eLst_ok, aNil_ok, eLoc_0, eLoc_s, bnd_ok, List.length_nil, Nat.zero_le, if_true, EB, EW, fNe_bl, bw, stm_ok, Bool.false_eq_true, if_false, bNil_ok, thn_nxt]
  simp only [bCons_ok, sFor_ok, iSeq_ok, eLoc_0, eLoc_s, bnd_ok, seqOf_lst, opt_some, stm_ok]
  rw [E5, thn_nxt, bNil_ok]
end
end K09

namespace K09
open PySem (Str PyData)
open IP Sh WF
theorem yes (ns : List Int) (hns : ns.length ≤ 63) : ∃ h', f_law [.scr (ns.map D.int)] [] = .ok (.bl true) h' := by
  obtain ⟨w0, wl0, dr, W⟩ := wants_eq ns hns 0 (by decide)
  obtain ⟨a, ba, pa⟩ := pick_eq ns hns 20 60 (by decide) (by decide)
  have pa' : ∀ h, f__law_pick [scr ns, .int 20, .int 60] h = .ok (nd a) h := pa
  have W' := W []
  simp only [List.nil_append] at W'
  have W2 : f__law_wants [scr ns, .int 0] [] = .ok (.lst (w0.map wi)) [.gone] := W'
  generalize hH : ([O.gone] : Hp) = H at W2
  have e1 : entry 20 [D.scr (ns.map D.int)] = [some (scr ns), none, none, none, none, none, none, none, none, none, none, none, none, none, none, none, none, none, none, none] := rfl
  generalize hws : ((w0.take 6).filter fun x => decide (x.2 < 100)) ++ [(1, 5)] = ws
  have wl : ws.length ≤ 7 := by
    rw [← hws, List.length_append, List.length_singleton]
    have h1 := List.length_filter_le (fun x : WI => decide (x.2 < 100)) (w0.take 6)
    rw [List.length_take] at h1
    omega
  have v : Val a ws := ⟨by omega, by omega, fun x hx => by
    rw [← hws] at hx
    rcases List.mem_append.mp hx with h | h
    · have := (drawn_val (a := 0) (by omega) (by omega) dr).ok x (List.mem_of_mem_take (List.mem_filter.mp h).1)
      exact this
    · have := List.mem_singleton.mp h
      subst this; exact ⟨by decide, by decide, by decide⟩⟩
  have LC : eLc [1, 2] (gTup 2 (gCons (gLoc 1) (gCons (gLoc 2) gNil))) (iSeq (eSl (eCall 2 f__law_wants (aCons (eLoc 0) (aCons (eCst (D.int (0 : Int))) aNil))) pNo (pAt (eCst (D.int (6 : Int)))))) (tVal (two fLt (eLoc 2) (eCst (D.int (100 : Int))))) (eTup (aCons (eLoc 1) (aCons (eLoc 2) aNil)))
      [some (scr ns), none, none, none, none, none, none, none, none, none, none, none, none, none, none, none, none, none, none, none] [] = .ok (.lst (((w0.take 6).filter fun x => decide (x.2 < 100)).map wi)) H := by
    refine eLc_map (u := wi) (p := fun x => decide (x.2 < 100)) (v := wi) (xs := w0.take 6) ?_ (fun x hx => ?_) (by rw [List.length_take]; omega)
    · have T : ∀ h, fSl (.lst (w0.map wi)) none (some 6) h = .ok (.lst ((w0.take 6).map wi)) h := fun h => by
        have := fSl_to (h := h) (xs := w0.map wi) (t := 6)
        rw [← List.map_take] at this
        exact this
      simp only [iSeq_ok, eSl, pNo, pAt, eCall_ok, aCons_ok, aNil_ok, eLoc_0, eCst_ok, bnd_ok, List.length_cons, List.length_nil, Nat.reduceAdd, if_true, W2, T, seqOf_lst, opt_some]
    · have dc : decide ((x.2 : Int) < 100) = decide (x.2 < 100) := by rw [decide_eq_decide]; omega
      simp only [lcTurn, wi, gTup_ok, List.length_cons, List.length_nil, Nat.reduceAdd, if_true, gCons_ok, gLoc_ok, bnd_ok, gNil_ok, wipe_cons, wipe_nil, List.set_cons_succ, List.set_cons_zero, tVal_ok, two_ok, eLoc_0, eLoc_s, eCst_ok, fCmp_int, dc]
      by_cases c : x.2 < 100
      · simp only [decide_eq_true c, if_true, eTup_ok, aCons_ok, aNil_ok, eLoc_0, eLoc_s, bnd_ok, List.length_cons, List.length_nil, Nat.reduceAdd, Nat.reduceLeDiff, calm_ok]
      · simp only [decide_eq_false c, Bool.false_eq_true, if_false, calm_ok]
  have A0 : fAdd (.lst (((w0.take 6).filter fun x => decide (x.2 < 100)).map wi)) (.lst [.tup [.int 1, .int 5]]) H = .ok (.lst (ws.map wi)) H := by
    rw [fAdd_lst (by
      simp only [List.length_map, List.length_singleton]
      have h1 := List.length_filter_le (fun x : WI => decide (x.2 < 100)) (w0.take 6)
      rw [List.length_take] at h1
      omega), ← hws, List.map_append]
    rfl
  have S1 := shares_eq2 (h := H) v
  have V1 := level_eq' (h := H) v
  have S1' : f_shares [nd a, .lst (ws.map wi)] H = .ok (.lst ((shs a ws).map fr)) H := S1
  have V1' : f_level [nd a, .lst (ws.map wi)] H = .ok (lvD (lv a ws)) H := V1
  have IN : fIsN (lvD (lv a ws)) H = .ok (.bl (lv a ws).isNone) H := by cases lv a ws <;> rfl
  simp only [f_law, b_law, mkFn_ok, List.length_cons, List.length_nil, Nat.reduceAdd, if_true, e1]
  rw [bCons_ok, sAsg_ok, two_ok, LC]
  simp only [bnd_ok, eLst_ok, eTup_ok, aCons_ok, aNil_ok, eCst_ok, List.length_cons, List.length_nil, Nat.reduceAdd, Nat.reduceLeDiff, if_true, A0, stm_ok, gLoc_ok, calm_ok, List.set_cons_succ, List.set_cons_zero, thn_nxt]
  rw [bCons_ok, sAsg_ok]
  simp only [eCall_ok, aCons_ok, aNil_ok, eLoc_0, eCst_ok, bnd_ok, List.length_cons, List.length_nil, Nat.reduceAdd, if_true, pa', stm_ok, gLoc_ok, calm_ok, List.set_cons_succ, List.set_cons_zero, thn_nxt]
  rw [bCons_ok, sAsg_ok]
  simp only [eTup_ok, eCall_ok, aCons_ok, aNil_ok, eLoc_0, eLoc_s, bnd_ok, List.length_cons, List.length_nil, Nat.reduceAdd, Nat.reduceLeDiff, if_true, S1', V1', stm_ok, gTup_ok, gCons_ok, gLoc_ok, gNil_ok, calm_ok, List.set_cons_succ, List.set_cons_zero, thn_nxt]
  rcases lv_cases v with ⟨l, e, l0, lF, lM⟩ | ⟨e, lM⟩
  · have z2 : (lv a ws).isNone = false := by rw [e]; rfl
    rw [bCons_ok, sIf_ok]
    simp only [tVal_ok, one_ok, eLoc_0, eLoc_s, bnd_ok, IN, z2, stm_ok, Bool.false_eq_true, if_false, bNil_ok, thn_nxt]
    have LOOP : ∀ (r lo : Nat) (hb : Hp) (s1 s2 o7 o8 o9 o10 o11 o12 o13 o14 o15 o16 o17 o18 o19 : Option D), lo + r = 10 → ∃ (hb' : Hp) (o7' o8' o9' o10' o11' o12' o13' o14' o15' o16' o17' o18' o19' : Option D), forGo (gLoc 7) BODY (rng (lo : Int) r)
        [some (scr ns), s1, s2, some (.lst (ws.map wi)), some (nd a), some (.lst ((shs a ws).map fr)), some (lvD (lv a ws)), o7, o8, o9, o10, o11, o12, o13, o14, o15, o16, o17, o18, o19] hb =
        .ok (.nxt [some (scr ns), s1, s2, some (.lst (ws.map wi)), some (nd a), some (.lst ((shs a ws).map fr)), some (lvD (lv a ws)), o7', o8', o9', o10', o11', o12', o13', o14', o15', o16', o17', o18', o19']) hb' := by
      intro r
      induction r with
      | zero => intro lo hb s1 s2 o7 o8 o9 o10 o11 o12 o13 o14 o15 o16 o17 o18 o19 _; exact ⟨hb, o7, o8, o9, o10, o11, o12, o13, o14, o15, o16, o17, o18, o19, rfl⟩
      | succ r ih =>
        intro lo hb s1 s2 o7 o8 o9 o10 o11 o12 o13 o14 o15 o16 o17 o18 o19 hl
        obtain ⟨hb1, p8, p9, p10, p11, p12, p13, p14, p15, p16, p17, p18, p19, T⟩ := turn hns v (by omega) (by omega) e lo (by omega) hb s1 s2 o8 o9 o10 o11 o12 o13 o14 o15 o16 o17 o18 o19
        obtain ⟨hb2, q7, q8, q9, q10, q11, q12, q13, q14, q15, q16, q17, q18, q19, E⟩ := ih (lo + 1) hb1 s1 s2 (some (nd lo)) p8 p9 p10 p11 p12 p13 p14 p15 p16 p17 p18 p19 (by omega)
        refine ⟨hb2, q7, q8, q9, q10, q11, q12, q13, q14, q15, q16, q17, q18, q19, ?_⟩
        show forGo _ _ (.int (lo : Int) :: rng ((lo : Int) + 1) r) _ _ = _
        have r1 : ((lo : Int) + 1) = ((lo + 1 : Nat) : Int) := by push_cast; rfl
        have nI : D.int (lo : Int) = nd lo := rfl
        rw [forGo_cons, gLoc_ok, calm_ok, stm_ok, nI]
        simp only [List.set_cons_succ, List.set_cons_zero]
        rw [T, trn_nxt, r1]
        exact E
    obtain ⟨hb, q7, q8, q9, q10, q11, q12, q13, q14, q15, q16, q17, q18, q19, E⟩ := LOOP 10 0 H none none none none none none none none none none none none none none none (by omega)
    have z0 : ((0 : Nat) : Int) = (0 : Int) := rfl
    rw [z0] at E
    have IR : ∀ (σ : Lo) (h : Hp), iRng (eCst (D.int (10 : Int))) σ h = .ok (rng 0 10) h := fun σ h => iRng_ok (n := 10) rfl (by omega)
    rw [bCons_ok, sFor_ok, IR, stm_ok, E, thn_nxt]
    obtain ⟨t, b, LS, b0, tb⟩ := law_sum_eq (h := hb) (qs := shs a ws) (fun q hq => by
      obtain ⟨x, hx, rfl⟩ := List.mem_map.mp hq
      exact sh_64 v hx) (by rw [shs_len]; omega)
    have sa : small (a : Int) = true := small_of_abs (by rw [Int.natAbs_natCast]; omega)
    have SM := same_pr (h := hb) (t := t) (u := (a : Int)) (b := b) (c := 1) (q := (a : Rat)) b0 (by decide) tb (by push_cast; grind) (mulOk_r (by decide)) (mulOk_l sa)
    rw [decide_eq_true (shs_sum v e)] at SM
    have SM' : f__law_same [pr t b, .tup [nd a, .int 1]] hb = .ok (.bl true) hb := SM
    refine ⟨hb, ?_⟩
    simp only [bCons_ok, sRet_ok, eCall_ok, aCons_ok, aNil_ok, eTup_ok, eLoc_0, eLoc_s, eCst_ok, bnd_ok, List.length_cons, List.length_nil, Nat.reduceAdd, Nat.reduceLeDiff, if_true, LS, SM', stm_ok, thn_ret, fnEnd_ret]
  · have z2 : (lv a ws).isNone = true := by rw [e]; rfl
    have LC2 : ∀ s5 s6, eLc [1, 2] (gTup 2 (gCons (gLoc 1) (gCons (gLoc 2) gNil))) (iSeq (eLoc 3)) tYes (eTup (aCons (eLoc 2) (aCons (eCst (D.int (1 : Int))) aNil)))
        [some (scr ns), none, none, some (.lst (ws.map wi)), some (nd a), s5, s6, none, none, none, none, none, none, none, none, none, none, none, none, none] H = .ok (.lst ((ws.map fun x => (x.2 : Rat)).map fr)) H := fun s5 s6 => by
      rw [List.map_map]
      exact eLc_all (u := wi) rfl (fun x hx => by simp [lcTurn, wi, fr_nat]) (by omega)
    have sS : shs a ws = ws.map fun x => (x.2 : Rat) := List.map_congr_left fun x _ => sh_none e x
    rw [bCons_ok, sIf_ok]
    refine ⟨H, ?_⟩
    simp only [tVal_ok, one_ok, eLoc_0, eLoc_s, bnd_ok, IN, z2, stm_ok, if_true, bCons_ok, sRet_ok, two_ok, LC2, fEq_frs sS, thn_ret, fnEnd_ret]
end K09

theorem PySem.Challenge.cw_cellyard_k09_whole_least_served_holds : PySem.Challenge.rw_cellyard_k09_whole_least_served.Holds := by
  exact K09.holds K09.yes
