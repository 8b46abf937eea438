import PyProof.Rows.All
import Wide.All
import OpenK.AllK
import Wide.FinOn
import KE.KStateDown
import HandS.ForMost
import HandS.Exc
import HandS.TryOnly
import HandS.ExcOwn
import HandS.WordsExc
import HandS.Slots
import HandS.Flow
import HandS.Wide
import HandS.TupAny
import HandS.TupMul
import HandS.Defaults
import HandS.Style
import HandS.TupLe
import HandS.Deep
import HandS.NoneIn
import PyProof.StrOps2
import HandS.Star
import HandS.SlotsOwn
import HandS.IsInst
import HandS.Conv
import HandS.Iter
import HandS.Zip
import KE.GoesMore
import HandS.Comp
import KE.KExcSuper
import KE.KExcPX
import KE.KExcInit
import KE.KSuper
import HandS.ExcInit
import HandS.ExcSuper
import HandS.ExcField
import HandS.Text
import HandS.Replace
import PyProof.ListStr
import KE.KRevSl
import HandS.Head0
import HandS.Head1
import HandS.Head2
import HandS.HeadEnd
import HandS.HeadHook1
import HandS.HeadHook2
import HandS.HeadHook3
import HandS.HeadHook4
import PyProof.Rows.Walk
import PySem.Challenge.RW_rowsthrough_k85_whole_letters_and_parts
section
set_option Elab.async false
set_option linter.all false
set_option maxRecDepth 100000
/-! The plain side: data, a small store of objects that change, results. No program in sight. -/
namespace Z

/-- a key of a dict -/
inductive Kd where
  | i (i : Int) | s (s : List Nat)
  deriving DecidableEq

/-- a value that does not change: lists and dicts among them are frozen ones; lck: the script -/
inductive D where
  | non | bl (b : Bool) | int (i : Int) | str (s : List Nat) | tup (xs : List D) | lst (xs : List D) | lck (ns : List Int) | dic (ks : List Kd) (xs : List D) | obj (c : Nat) (xs : List D)
  deriving Inhabited

/-- an exception: its class, what it keeps -/
structure Exn where
  c : Nat
  a : D := .non

/-- what a name holds: a value, or an object of the store -/
inductive W where
  | d (x : D) | ref (i : Nat)
  deriving Inhabited

/-- an object that may change -/
inductive O where
  | lst (xs : List D) | dic (ks : List Kd) (xs : List D) | ins (c : Nat) (fs : List (Option W))

structure S where
  nx : Nat
  os : List (Nat × O)
  deriving Inhabited

def getO (i : Nat) : List (Nat × O) → Option O
  | [] => none
  | (j, u) :: r => if i = j then some u else getO i r
def setO (i : Nat) (o : O) : List (Nat × O) → List (Nat × O)
  | [] => []
  | (j, u) :: r => if i = j then (j, o) :: r else (j, u) :: setO i o r
def delO (i : Nat) : List (Nat × O) → List (Nat × O)
  | [] => []
  | (j, u) :: r => if i = j then delO i r else (j, u) :: delO i r
def isRef (j : Nat) : W → Bool
  | .d _ => false
  | .ref i => i == j
def sweepO (n : Nat) (w : W) : List (Nat × O) → List (Nat × O)
  | [] => []
  | (j, u) :: r => if decide (j < n) || isRef j w then (j, u) :: sweepO n w r else sweepO n w r
def S.get (s : S) (i : Nat) : Option O := getO i s.os
def S.add (s : S) (o : O) : S := ⟨s.nx + 1, (s.nx, o) :: s.os⟩
def S.put (s : S) (i : Nat) (o : O) : S := ⟨s.nx, setO i o s.os⟩
def S.del (s : S) (i : Nat) : S := ⟨s.nx, delO i s.os⟩
/-- what was made from n on goes, but for w itself -/
def S.sweep (s : S) (n : Nat) (w : W) : S := ⟨s.nx, sweepO n w s.os⟩
def S.nil : S := ⟨0, []⟩

inductive R (α : Type) where
  | ok (a : α) | exc (x : Exn) | bad

inductive RS (α : Type) where
  | ok (a : α) (s : S) | exc (x : Exn) (s : S) | bad

def RS.bind {α β : Type} (r : RS α) (k : α → S → RS β) : RS β := match r with
  | .ok a s => k a s
  | .exc x s => .exc x s
  | .bad => .bad
def RS.opt {α : Type} (o : Option α) (s : S) : RS α := match o with
  | some a => .ok a s
  | none => .bad

abbrev Env := List (Option W)
abbrev CE := Env → S → RS W
abbrev CT := Env → S → RS Bool
abbrev CA := Env → S → RS (List W)
/-- a new list -/
abbrev CL := Env → S → RS (List D)

/-- how a statement ends -/
inductive RF where
  | nx (e : Env) (s : S) | ret (w : W) (s : S) | brk (e : Env) (s : S) | cnt (e : Env) (s : S) | exc (x : Exn) (e : Env) (s : S) | bad
abbrev CS := Env → S → RF

def RS.toF {α : Type} (r : RS α) (e : Env) (k : α → S → RF) : RF := match r with
  | .ok a s => k a s
  | .exc x s => .exc x e s
  | .bad => .bad

/-- a list, a dict of the store is looked at as it stands -/
def view (w : W) (s : S) : Option D := match w with
  | .d x => some x
  | .ref i => match s.get i with
    | some (.lst xs) => some (.lst xs)
    | some (.dic ks xs) => some (.dic ks xs)
    | _ => none
def viewAll : List W → S → Option (List D)
  | [], _ => some []
  | w :: r, s => match view w s, viewAll r s with
    | some x, some xs => some (x :: xs)
    | _, _ => none

/-! ### names, constants -/
def cVar (i : Nat) : CE := fun e s => match e[i]? with
  | some (some w) => .ok w s
  | _ => .bad
def cK (x : D) : CE := fun _ s => .ok (.d x) s

/-! ### operations on values -/
abbrev Op2 := D → D → Option D
def cOp (f : Op2) (a b : CE) : CE := fun e s => (a e s).bind fun x s1 => (b e s1).bind fun y s2 => match view x s2, view y s2 with
  | some u, some v => match f u v with
    | some z => .ok (.d z) s2
    | none => .bad
  | _, _ => .bad
abbrev Op1 := D → Option D
def cUn (f : Op1) (a : CE) : CE := fun e s => (a e s).bind fun x s1 => match view x s1 with
  | some u => match f u with
    | some z => .ok (.d z) s1
    | none => .bad
  | none => .bad
/-- a op b op' c -/
def cChain (f g : Op2) (a b c : CE) : CE := fun e s => (a e s).bind fun x s1 => (b e s1).bind fun y s2 => match view x s2, view y s2 with
  | some u, some v => match f u v with
    | some (.bl true) => (c e s2).bind fun z s3 => match view y s3, view z s3 with
      | some v', some w => match g v' w with
        | some t => .ok (.d t) s3
        | none => .bad
      | _, _ => .bad
    | some (.bl false) => .ok (.d (.bl false)) s2
    | _ => .bad
  | _, _ => .bad

/-! ### tests -/
/-- a value's truth -/
def truth : D → Option Bool
  | .non => some false
  | .bl b => some b
  | .int i => some (i != 0)
  | .str s => some (!s.isEmpty)
  | .tup xs => some (!xs.isEmpty)
  | .lst xs => some (!xs.isEmpty)
  | .lck _ => none
  | .dic ks _ => some (!ks.isEmpty)
  | .obj _ _ => none
def cTru (a : CE) : CT := fun e s => (a e s).bind fun x s1 => match view x s1 with
  | some u => RS.opt (truth u) s1
  | none => .bad
/-- a test whose value is a bool -/
def cTB (a : CE) : CT := fun e s => (a e s).bind fun x s1 => match x with
  | .d (.bl b) => .ok b s1
  | _ => .bad
def tAnd (a b : CT) : CT := fun e s => (a e s).bind fun x s1 => if x then b e s1 else .ok false s1
def tOr (a b : CT) : CT := fun e s => (a e s).bind fun x s1 => if x then .ok true s1 else b e s1
def tNot (a : CT) : CT := fun e s => (a e s).bind fun x s1 => .ok (!x) s1
/-- .. as values: what stands ahead is a bool -/
def cAnd (a b : CE) : CE := fun e s => (a e s).bind fun x s1 => match x with
  | .d (.bl true) => b e s1
  | .d (.bl false) => .ok (.d (.bl false)) s1
  | _ => .bad
def cOr (a b : CE) : CE := fun e s => (a e s).bind fun x s1 => match x with
  | .d (.bl true) => .ok (.d (.bl true)) s1
  | .d (.bl false) => b e s1
  | _ => .bad
def cNot (a : CE) : CE := fun e s => (a e s).bind fun x s1 => match x with
  | .d (.bl b) => .ok (.d (.bl (!b))) s1
  | _ => .bad
def cIf (t : CT) (a b : CE) : CE := fun e s => (t e s).bind fun x s1 => if x then a e s1 else b e s1

/-! ### arguments, displays -/
def aNil : CA := fun _ s => .ok [] s
def aCons (a : CE) (r : CA) : CA := fun e s => (a e s).bind fun x s1 => (r e s1).bind fun xs s2 => .ok (x :: xs) s2
def asDs : List W → Option (List D)
  | [] => some []
  | .d x :: r => match asDs r with
    | some xs => some (x :: xs)
    | none => none
  | .ref _ :: _ => none
def LIM : Nat := 16777216
def cTup (a : CA) : CE := fun e s => (a e s).bind fun ws s1 => match asDs ws with
  | some xs => if xs.length ≤ LIM then .ok (.d (.tup xs)) s1 else .bad
  | none => .bad
def lDisp (a : CA) : CL := fun e s => (a e s).bind fun ws s1 => match asDs ws with
  | some xs => if xs.length ≤ LIM then .ok xs s1 else .bad
  | none => .bad
/-- a new list that is never changed; one that may be -/
def cFrz (l : CL) : CE := fun e s => (l e s).bind fun xs s1 => .ok (.d (.lst xs)) s1
def cNew (l : CL) : CE := fun e s => (l e s).bind fun xs s1 => .ok (.ref s1.nx) (s1.add (.lst xs))
/-- an object of the store that is not changed any more -/
def cDone (a : CE) : CE := fun e s => (a e s).bind fun w s1 => match w with
  | .ref i => match s1.get i with
    | some (.lst xs) => .ok (.d (.lst xs)) (s1.del i)
    | some (.dic ks xs) => .ok (.d (.dic ks xs)) (s1.del i)
    | _ => .bad
  | .d x => .ok (.d x) s1

/-! ### targets -/
abbrev TG := W → Env → S → RS Env
def gNm (i : Nat) : TG := fun w e s => .ok (e.set i (some w)) s
def itemsOf : D → Option (List D)
  | .tup xs => some xs
  | .lst xs => some xs
  | _ => none
def gEach : List TG → List D → Env → S → RS Env
  | [], [], e, s => .ok e s
  | g :: gs, x :: xs, e, s => (g (.d x) e s).bind fun e1 s1 => gEach gs xs e1 s1
  | _, _, _, _ => .bad
def gTp (gs : List TG) : TG := fun w e s => match w with
  | .d u => match itemsOf u with
    | some xs => if xs.length = gs.length then gEach gs xs e s else .bad
    | none => .bad
  | .ref _ => .bad

/-! ### statements -/
def sNil : CS := fun e s => .nx e s
def sSeq (a b : CS) : CS := fun e s => match a e s with
  | .nx e1 s1 => b e1 s1
  | r => r
def sAsg (a : CE) (g : TG) : CS := fun e s => (a e s).toF e fun w s1 => (g w e s1).toF e fun e1 s2 => .nx e1 s2
/-- a, b, .. = x, y, ..: no tuple is kept -/
def gAll : List TG → List W → Env → S → RS Env
  | [], [], e, s => .ok e s
  | g :: gs, x :: xs, e, s => (g x e s).bind fun e1 s1 => gAll gs xs e1 s1
  | _, _, _, _ => .bad
def sPar (a : CA) (gs : List TG) : CS := fun e s => (a e s).toF e fun ws s1 => (gAll gs ws e s1).toF e fun e1 s2 => .nx e1 s2
def sExpr (a : CE) : CS := fun e s => (a e s).toF e fun _ s1 => .nx e s1
def sRet (a : CE) : CS := fun e s => (a e s).toF e fun w s1 => .ret w s1
def sRetN : CS := fun _ s => .ret (.d .non) s
def sIf (t : CT) (a b : CS) : CS := fun e s => (t e s).toF e fun x s1 => if x then a e s1 else b e s1
def sBrk : CS := fun e s => .brk e s
def sCnt : CS := fun e s => .cnt e s

/-- an attribute as a target -/
def gFld (ix : Nat → Option Nat) (a : CE) : TG := fun x e s => match a e s with
  | .ok (.ref j) s1 => match s1.get j with
    | some (.ins c fs) => match ix c with
      | some i => .ok e (s1.put j (.ins c ((fs ++ List.replicate (i + 1 - fs.length) none).set i (some x))))
      | none => .bad
    | _ => .bad
  | _ => .bad
def setD (xs : List D) (i : Int) (y : D) : Option (List D) := if 0 ≤ i then (if i.toNat < xs.length then some (xs.set i.toNat y) else none) else if -(xs.length : Int) ≤ i then some (xs.set (i + xs.length).toNat y) else none
/-- xs[i] = e -/
def sPut (v a i : CE) : CS := fun e s => (v e s).toF e fun y s1 => (a e s1).toF e fun w s2 => (i e s2).toF e fun k s3 => match w, k, y with
  | .ref j, .d (.int n), .d z => match s3.get j with
    | some (.lst xs) => match setD xs n z with
      | some ys => .nx e (s3.put j (.lst ys))
      | none => .bad
    | _ => .bad
  | _, _, _ => .bad

/-! ### exceptions -/
def sRaise (c : Nat) : CS := fun e s => .exc ⟨c, .non⟩ e s
def sRaiseF (c : Nat) (a : CE) : CS := fun e s => (a e s).toF e fun w s1 => match w with
  | .d x => .exc ⟨c, x⟩ e s1
  | .ref _ => .bad
/-- not come to -/
def sNever : CS := fun _ _ => .bad
/-- try: b, except .. as (slot i): return h -/
def sTryAs (mt : Nat → Option Bool) (b : CS) (i : Nat) (h : D → CE) : CS := fun e s => match b e s with
  | .exc x e1 s1 => match mt x.c with
    | some true => match h x.a (e1.set i none) s1 with
      | .ok w s2 => .ret w s2
      | _ => .bad
    | some false => .exc x e1 s1
    | none => .bad
  | r => r

/-! ### what is walked -/
/-- items that stand, or a list of the store as it is at each turn -/
inductive Itm where
  | all (xs : List D) | at_ (i : Nat) (n : Nat)
abbrev CI := Env → S → RS Itm
def iterOf : D → Option (List D)
  | .tup xs => some xs
  | .lst xs => some xs
  | .str s => some (s.map fun c => .str [c])
  | _ => none
/-- a tuple, a list, a text -/
def iVal (a : CE) : CI := fun e s => (a e s).bind fun w s1 => match w with
  | .d x => match iterOf x with
    | some xs => .ok (.all xs) s1
    | none => .bad
  | .ref i => match s1.get i with
    | some (.lst xs) => .ok (.at_ i (xs.length + 1)) s1
    | _ => .bad
def iLst (l : CL) : CI := fun e s => (l e s).bind fun xs s1 => .ok (.all xs) s1
def rangeL (lo : Int) (n : Nat) : List D := (List.range n).map fun (k : Nat) => .int (lo + (k : Int))
def okR (i : Int) : Bool := decide (-4611686018427387904 ≤ i) && decide (i < 4611686018427387904)
def iRg1 (a : CE) : CI := fun e s => (a e s).bind fun w s1 => match w with
  | .d (.int j) => if okR j then .ok (.all (rangeL 0 j.toNat)) s1 else .bad
  | _ => .bad
def iRg2 (a b : CE) : CI := fun e s => (a e s).bind fun w s1 => (b e s1).bind fun u s2 => match w, u with
  | .d (.int i), .d (.int j) => if okR i && okR j then .ok (.all (rangeL i (j - i).toNat)) s2 else .bad
  | _, _ => .bad
def rangeC (lo c : Int) (n : Nat) : List D := (List.range n).map fun (k : Nat) => .int (lo + (k : Int) * c)
/-- how many turns a range with a step has -/
def turnsOf (i j c : Int) : Nat := if 0 < c then (if i < j then ((j - i - 1) / c + 1).toNat else 0) else (if j < i then ((i - j - 1) / (-c) + 1).toNat else 0)
def iRg3 (a b c : CE) : CI := fun e s => (a e s).bind fun w s1 => (b e s1).bind fun u s2 => (c e s2).bind fun v s3 => match w, u, v with
  | .d (.int i), .d (.int j), .d (.int k) => if okR i && okR j && decide (k ≠ 0) && decide (k.natAbs < 1073741824) then .ok (.all (rangeC i k (turnsOf i j k))) s3 else .bad
  | _, _, _ => .bad
def numbered : Nat → List D → List D
  | _, [] => []
  | k, x :: r => .tup [.int (k : Int), x] :: numbered (k + 1) r
def pairs : List D → List D → List D
  | x :: xs, y :: ys => .tup [x, y] :: pairs xs ys
  | _, _ => []
def iEnum (a : CE) : CI := fun e s => (a e s).bind fun w s1 => match w with
  | .d x => match itemsOf x with
    | some xs => .ok (.all (numbered 0 xs)) s1
    | none => .bad
  | .ref _ => .bad
def iZip (a b : CE) : CI := fun e s => (a e s).bind fun w s1 => (b e s1).bind fun u s2 => match w, u with
  | .d (.lst xs), .d (.lst ys) => .ok (.all (pairs xs ys)) s2
  | .d (.tup xs), .d (.tup ys) => .ok (.all (pairs xs ys)) s2
  | _, _ => .bad
/-- the list of a name is not changed any more -/
def frzV (i : Nat) (e : Env) (s : S) : Env × S := match e[i]? with
  | some (some (.ref j)) => match s.get j with
    | some (.lst xs) => (e.set i (some (.d (.lst xs))), s.del j)
    | some (.dic ks xs) => (e.set i (some (.d (.dic ks xs))), s.del j)
    | _ => (e, s)
  | _ => (e, s)
def sFrz (i : Nat) (b : CS) : CS := fun e s => b (frzV i e s).1 (frzV i e s).2

def turnEnd (r : RF) (k : Env → S → RF) : RF := match r with
  | .nx e s => k e s
  | .cnt e s => k e s
  | .brk e s => .nx e s
  | o => o
def forAll (g : TG) (b : CS) : List D → Env → S → RF
  | [], e, s => .nx e s
  | x :: r, e, s => (g (.d x) e s).toF e fun e1 s1 => turnEnd (b e1 s1) fun e2 s2 => forAll g b r e2 s2
def forAt (g : TG) (b : CS) (i : Nat) : Nat → Nat → Env → S → RF
  | 0, _, _, _ => .bad
  | n + 1, k, e, s => match s.get i with
    | some (.lst xs) => match xs[k]? with
      | some x => (g (.d x) e s).toF e fun e1 s1 => turnEnd (b e1 s1) fun e2 s2 => forAt g b i n (k + 1) e2 s2
      | none => .nx e s
    | _ => .bad
def sFor (it : CI) (g : TG) (b : CS) : CS := fun e s => (it e s).toF e fun J s1 => match J with
  | .all xs => forAll g b xs e s1
  | .at_ i n => forAt g b i n 0 e s1
def whileN (t : CT) (b : CS) : Nat → Env → S → RF
  | 0, _, _ => .bad
  | n + 1, e, s => (t e s).toF e fun x s1 => if x then turnEnd (b e s1) fun e2 s2 => whileN t b n e2 s2 else .nx e s1
def sWhile (fuel : Nat) (t : CT) (b : CS) : CS := fun e s => whileN t b fuel e s

/-! ### comprehensions -/
def wipeE (e : Env) : List Nat → Env
  | [] => e
  | v :: vs => (wipeE e vs).set v none
def yes : CT := fun _ s => .ok true s
/-- in a comprehension nothing is raised -/
def RS.ck {α β : Type} (r : RS α) (k : α → S → RS β) : RS β := match r with
  | .ok a s => k a s
  | _ => .bad
/-- what each item gives: none where a test fails -/
def lcAll (g : TG) (t : CT) (el : CE) (e0 : Env) : List D → S → RS (List D)
  | [], s => .ok [] s
  | x :: r, s => (g (.d x) e0 s).ck fun e1 s1 => (t e1 s1).ck fun b s2 => if b then (el e1 s2).ck fun w s3 => match w with
      | .d y => (lcAll g t el e0 r s3).ck fun ys s4 => .ok (y :: ys) s4
      | .ref _ => .bad
    else lcAll g t el e0 r s2
def lcAt (g : TG) (t : CT) (el : CE) (e0 : Env) (i : Nat) : Nat → Nat → S → RS (List D)
  | 0, _, _ => .bad
  | n + 1, k, s => match s.get i with
    | some (.lst xs) => match xs[k]? with
      | some x => (g (.d x) e0 s).ck fun e1 s1 => (t e1 s1).ck fun b s2 => if b then (el e1 s2).ck fun w s3 => match w with
          | .d y => (lcAt g t el e0 i n (k + 1) s3).ck fun ys s4 => .ok (y :: ys) s4
          | .ref _ => .bad
        else lcAt g t el e0 i n (k + 1) s2
      | none => .ok [] s
    | _ => .bad
/-- the items had so far, then the rest: within the line -/
def pre (acc : List D) (r : RS (List D)) : RS (List D) := r.ck fun ys s => if (acc ++ ys).length ≤ LIM then .ok (acc ++ ys) s else .bad
def lLc (it : CI) (g : TG) (t : CT) (el : CE) (vs : List Nat) : CL := fun e s => (it e s).bind fun J s1 => match J with
  | .all xs => pre [] (lcAll g t el (wipeE e vs) xs s1)
  | .at_ i n => pre [] (lcAt g t el (wipeE e vs) i n 0 s1)
/-- two clauses, no tests -/
def lcAll2 (g : TG) (it1 : CI) (g1 : TG) (el : CE) (vs1 : List Nat) (e0 : Env) : List D → S → RS (List D)
  | [], s => .ok [] s
  | x :: r, s => (g (.d x) e0 s).ck fun e1 s1 => (it1 e1 s1).ck fun J s2 => match J with
    | .all ys => (lcAll g1 yes el (wipeE e1 vs1) ys s2).ck fun zs s3 => (lcAll2 g it1 g1 el vs1 e0 r s3).ck fun ws s4 => .ok (zs ++ ws) s4
    | .at_ _ _ => .bad
def lLc2 (it : CI) (g : TG) (it1 : CI) (g1 : TG) (el : CE) (vs vs1 : List Nat) : CL := fun e s => (it e s).bind fun J s1 => match J with
  | .all xs => pre [] (lcAll2 g it1 g1 el vs1 (wipeE e vs) xs s1)
  | .at_ _ _ => .bad

/-! ### calls -/
mutual
/-- no list, no dict stands in it -/
def noLst : D → Bool
  | .lst _ => false
  | .lck _ => false
  | .dic _ _ => false
  | .tup xs => noLsts xs
  | .obj _ xs => noLsts xs
  | _ => true
def noLsts : List D → Bool
  | [] => true
  | x :: r => noLst x && noLsts r
end
def anyRef : List W → Bool
  | [] => false
  | .d _ :: r => anyRef r
  | .ref _ :: _ => true
/-- a def that changes no object: of values to a value -/
def cCallP (f : List D → R D) (a : CA) : CE := fun e s => (a e s).bind fun ws s1 => match viewAll ws s1 with
  | some xs => match f xs with
    | .ok y => if anyRef ws && !noLst y then .bad else .ok (.d y) s1
    | .exc x => if anyRef ws && !noLst x.a then .bad else .exc x s1
    | .bad => .bad
  | none => .bad
/-- a def that may -/
def cCallI (f : List W → S → RS W) (a : CA) : CE := fun e s => (a e s).bind fun ws s1 => f ws s1

/-- a new instance, then its init -/
def cMake (c : Nat) (f : List W → S → RS W) (a : CA) : CE := fun e s => (a e s).bind fun ws s1 => (f (.ref s1.nx :: ws) (s1.add (.ins c []))).bind fun r s2 => match r with
  | .d .non => .ok (.ref s1.nx) s2
  | _ => .bad
def allD : List (Option W) → Option (List D)
  | [] => some []
  | some (.d x) :: r => match allD r with
    | some xs => some (x :: xs)
    | none => none
  | _ :: _ => none
/-- an instance that is not changed any more -/
def cDoneO (a : CE) : CE := fun e s => (a e s).bind fun w s1 => match w with
  | .d x => .ok (.d x) s1
  | .ref i => match s1.get i with
    | some (.ins c fs) => match allD fs with
      | some (x :: xs) => .ok (.d (.obj c (x :: xs))) (s1.del i)
      | _ => .bad
    | _ => .bad
/-- an attribute that a def answers -/
def cProp (f : Nat → Option (List D → R D)) (a : CE) : CE := fun e s => (a e s).bind fun w s1 => match w with
  | .d (.obj c xs) => match f c with
    | some g => match g [.obj c xs] with
      | .ok y => .ok (.d y) s1
      | _ => .bad
    | none => .bad
  | _ => .bad

def start (n : Nat) (ws : List W) : Env := ws.map some ++ List.replicate (n - ws.length) none
/-- a def's body, over values -/
def runP (b : CS) (n k : Nat) (xs : List D) : R D := if xs.length = k then match b (start n (xs.map .d)) S.nil with
    | .ret (.d y) _ => .ok y
    | .nx _ _ => .ok .non
    | .exc x _ _ => .exc x
    | _ => .bad
  else .bad
/-- a def's body, over objects of the store -/
def runI (b : CS) (n k : Nat) (ws : List W) (s : S) : RS W := if ws.length = k then match b (start n ws) s with
    | .ret w s1 => .ok w (s1.sweep s.nx w)
    | .nx _ s1 => .ok (.d .non) (s1.sweep s.nx (.d .non))
    | .exc x _ s1 => .exc x (s1.sweep s.nx (.d .non))
    | _ => .bad
  else .bad

/-! ### operations -/
mutual
/-- == of data -/
def eqv : D → D → Bool
  | .non, .non => true
  | .bl a, .bl b => a == b
  | .bl a, .int j => (if a then 1 else 0) == j
  | .int i, .bl b => i == (if b then 1 else 0)
  | .int i, .int j => i == j
  | .str x, .str y => x == y
  | .lst xs, .lst ys => eqvs xs ys
  | .tup xs, .tup ys => eqvs xs ys
  | _, _ => false
def eqvs : List D → List D → Bool
  | [], [] => true
  | x :: xs, y :: ys => eqv x y && eqvs xs ys
  | _, _ => false
end
mutual
/-- data as == takes it -/
def lay : D → Bool
  | .non => true
  | .bl _ => true
  | .int _ => true
  | .str s => s.all fun c => decide (c < 1114112)
  | .tup xs => lays xs
  | .lst xs => lays xs
  | _ => false
def lays : List D → Bool
  | [] => true
  | x :: r => lay x && lays r
end
mutual
def depth : D → Nat
  | .tup xs => depths xs + 1
  | .lst xs => depths xs + 1
  | _ => 0
def depths : List D → Nat
  | [] => 0
  | x :: r => max (depth x) (depths r)
end
def shp (x : D) : Bool := lay x && decide (depth x ≤ 64)
def oEq : Op2 := fun x y => if shp x && shp y then some (.bl (eqv x y)) else none
def oNe : Op2 := fun x y => if shp x && shp y then some (.bl (!eqv x y)) else none

def oAdd : Op2 := fun x y => match x, y with
  | .int i, .int j => some (.int (i + j))
  | .str a, .str b => if a.length + b.length ≤ LIM then some (.str (a ++ b)) else none
  | .tup a, .tup b => if a.length + b.length ≤ LIM then some (.tup (a ++ b)) else none
  | .lst a, .lst b => if a.length + b.length ≤ LIM then some (.lst (a ++ b)) else none
  | _, _ => none
def oSub : Op2 := fun x y => match x, y with
  | .int i, .int j => some (.int (i - j))
  | _, _ => none
def rep {α : Type} (n : Nat) (xs : List α) : List α := match n with
  | 0 => []
  | n + 1 => xs ++ rep n xs
def oMul : Op2 := fun x y => match x, y with
  | .int i, .int j => if decide (i.natAbs < 18446744073709551616) || decide (j.natAbs < 18446744073709551616) || decide (i.natAbs.log2 + j.natAbs.log2 < 1000000) then some (.int (i * j)) else none
  | .lst a, .int k => if decide (k < 9223372036854775808) && decide (-9223372036854775808 ≤ k) && decide (a.length * k.toNat ≤ LIM) then some (.lst (rep k.toNat a)) else none
  | .tup a, .int k => if decide (0 ≤ k) && decide (k ≤ 1000) && decide (a.length ≤ 1000) then some (.tup (rep k.toNat a)) else none
  | .str a, .int k => if decide (0 ≤ k) && decide (k ≤ 16777216) && decide (a.length * k.toNat ≤ LIM) then some (.str (rep k.toNat a)) else none
  | _, _ => none
def oDiv : Op2 := fun x y => match x, y with
  | .int i, .int j => if decide (0 < j) && decide (j.natAbs.log2 < 9000) then some (.int (i / j)) else none
  | _, _ => none
def oMod : Op2 := fun x y => match x, y with
  | .int i, .int j => if 0 < j then some (.int (i % j)) else none
  | _, _ => none
def oPow : Op2 := fun x y => match x, y with
  | .int i, .int j => if decide (0 ≤ j) && decide ((i.natAbs.log2 + 1) * j.toNat ≤ 100000000) then some (.int (i ^ j.toNat)) else none
  | _, _ => none
def oNeg : Op1 := fun x => match x with
  | .int i => some (.int (-i))
  | _ => none
def intsOf : List D → Option (List Int)
  | [] => some []
  | .int i :: r => match intsOf r with
    | some ns => some (i :: ns)
    | none => none
  | _ :: _ => none
/-- two rows of numbers -/
def lexLt : List Int → List Int → Bool
  | [], [] => false
  | [], _ :: _ => true
  | _ :: _, [] => false
  | a :: as, b :: bs => if a = b then lexLt as bs else decide (a < b)
def lexLe : List Int → List Int → Bool
  | [], _ => true
  | _ :: _, [] => false
  | a :: as, b :: bs => if a = b then lexLe as bs else decide (a ≤ b)
def strLt : List Nat → List Nat → Bool
  | [], [] => false
  | [], _ :: _ => true
  | _ :: _, [] => false
  | a :: as, b :: bs => if a = b then strLt as bs else decide (a < b)
def oLt : Op2 := fun x y => match x, y with
  | .int i, .int j => some (.bl (decide (i < j)))
  | .str a, .str b => some (.bl (strLt a b))
  | .tup a, .tup b => match intsOf a, intsOf b with
    | some ns, some ms => some (.bl (lexLt ns ms))
    | _, _ => none
  | _, _ => none
def oLe : Op2 := fun x y => match x, y with
  | .int i, .int j => some (.bl (decide (i ≤ j)))
  | .str a, .str b => some (.bl (!strLt b a))
  | .tup a, .tup b => match intsOf a, intsOf b with
    | some ns, some ms => some (.bl (lexLe ns ms))
    | _, _ => none
  | _, _ => none
def oGt : Op2 := fun x y => match x, y with
  | .int i, .int j => some (.bl (decide (j < i)))
  | _, _ => none
def oGe : Op2 := fun x y => match x, y with
  | .int i, .int j => some (.bl (decide (j ≤ i)))
  | _, _ => none
def flat : D → Bool
  | .non => true
  | .bl _ => true
  | .int _ => true
  | .str _ => true
  | _ => false
def kdOf : D → Option Kd
  | .int i => some (.i i)
  | .str s => some (.s s)
  | _ => none
def memB (x : D) : List D → Bool
  | [] => false
  | y :: r => eqv y x || memB x r
/-- the first one by that key -/
def dget : List Kd → List D → Kd → Option D
  | k :: ks, x :: xs, j => if k = j then some x else dget ks xs j
  | _, _, _ => none
/-- x in y -/
def inOf : D → D → Option Bool
  | .non, .dic _ _ => some false
  | .str [c], .str s => some (s.contains c)
  | x, .tup ys => if flat x && ys.all flat then some (memB x ys) else none
  | x, .lst ys => if flat x && ys.all flat then some (memB x ys) else if shp x && shp (.lst ys) then some (memB x ys) else none
  | x, .dic ks _ => match kdOf x with
    | some k => some (ks.any fun j => decide (j = k))
    | none => none
  | _, _ => none
def oIn : Op2 := fun x y => (inOf x y).map .bl
def oNin : Op2 := fun x y => (inOf x y).map fun b => .bl (!b)
def oIsN : Op1 := fun x => match x with
  | .non => some (.bl true)
  | _ => some (.bl false)
def oNotN : Op1 := fun x => match x with
  | .non => some (.bl false)
  | _ => some (.bl true)

/-! ### places -/
/-- the item at a place, from the end too -/
def atD {α : Type} (xs : List α) (i : Int) : Option α := if 0 ≤ i then xs[i.toNat]? else if -(xs.length : Int) ≤ i then xs[(i + xs.length).toNat]? else none
def oIdx : Op2 := fun x y => match x, y with
  | .tup xs, .int i => atD xs i
  | .lst xs, .int i => atD xs i
  | .lck ns, .int i => (atD ns i).map .int
  | .str s, .int i => (atD s i).map fun c => .str [c]
  | _, _ => none
def oIdxD : Op2 := fun x y => match x with
  | .dic ks xs => match kdOf y with
    | some k => dget ks xs k
    | none => none
  | _ => none
/-- where a slice begins, ends -/
def sIx (n : Nat) (d : Nat) (o : Option Int) : Nat := match o with
  | none => d
  | some i => if i < 0 then (i + n).toNat else min i.toNat n
def cutD {α : Type} (xs : List α) (lo hi : Option Int) : List α := (xs.drop (sIx xs.length 0 lo)).take (sIx xs.length xs.length hi - sIx xs.length 0 lo)
abbrev CO := Env → S → RS (Option Int)
def pNone : CO := fun _ s => .ok none s
def pSome (a : CE) : CO := fun e s => (a e s).bind fun w s1 => match w with
  | .d (.int i) => .ok (some i) s1
  | _ => .bad
/-- a slice of a tuple, a text -/
def cSl (a : CE) (lo hi : CO) : CE := fun e s => (a e s).bind fun w s1 => (lo e s1).bind fun l s2 => (hi e s2).bind fun h s3 => match view w s3 with
  | some (.tup xs) => .ok (.d (.tup (cutD xs l h))) s3
  | some (.lst xs) => .ok (.d (.lst (cutD xs l h))) s3
  | some (.str xs) => .ok (.d (.str (cutD xs l h))) s3
  | _ => .bad
/-- x[::-1] -/
def cRev (a : CE) : CE := fun e s => (a e s).bind fun w s1 => match view w s1 with
  | some (.tup xs) => .ok (.d (.tup xs.reverse)) s1
  | some (.lst xs) => .ok (.d (.lst xs.reverse)) s1
  | _ => .bad
def lRev (a : CE) : CL := fun e s => (a e s).bind fun w s1 => match view w s1 with
  | some (.lst xs) => .ok xs.reverse s1
  | _ => .bad
/-- of a list -/
def lSl (a : CE) (lo hi : CO) : CL := fun e s => (a e s).bind fun w s1 => (lo e s1).bind fun l s2 => (hi e s2).bind fun h s3 => match view w s3 with
  | some (.lst xs) => .ok (cutD xs l h) s3
  | _ => .bad
/-- an attribute: the place of its slot by class -/
def cFld (ix : Nat → Option Nat) (a : CE) : CE := fun e s => (a e s).bind fun w s1 => match w with
  | .d (.obj c xs) => match ix c with
    | some i => match xs[i]? with
      | some x => .ok (.d x) s1
      | none => .bad
    | none => .bad
  | .ref j => match s1.get j with
    | some (.ins c fs) => match ix c with
      | some i => match fs[i]? with
        | some (some x) => .ok x s1
        | _ => .bad
      | none => .bad
    | _ => .bad
  | _ => .bad
def putAt {α : Type} (i : Nat) (x : α) (fs : List (Option α)) : List (Option α) := (fs ++ List.replicate (i + 1 - fs.length) none).set i (some x)
def sFld (ix : Nat → Option Nat) (a v : CE) : CS := fun e s => (v e s).toF e fun x s1 => (a e s1).toF e fun w s2 => match w with
  | .ref j => match s2.get j with
    | some (.ins c fs) => match ix c with
      | some i => .nx e (s2.put j (.ins c (putAt i x fs)))
      | none => .bad
    | _ => .bad
  | _ => .bad

/-! ### built-in calls -/
abbrev Bi := List D → Option D
def cBi (k : Bi) (a : CA) : CE := fun e s => (a e s).bind fun ws s1 => match viewAll ws s1 with
  | some xs => match k xs with
    | some y => .ok (.d y) s1
    | none => .bad
  | none => .bad
def bLen : Bi := fun xs => match xs with
  | [.str s] => some (.int s.length)
  | [.lst ys] => some (.int ys.length)
  | [.tup ys] => some (.int ys.length)
  | [.lck ys] => some (.int ys.length)
  | [.dic ks _] => some (.int ks.length)
  | _ => none
def bAbs : Bi := fun xs => match xs with
  | [.int i] => some (.int (if i < 0 then -i else i))
  | _ => none
def bInt : Bi := fun xs => match xs with
  | [.int i] => some (.int i)
  | [.bl b] => some (.int (if b then 1 else 0))
  | _ => none
def bMax2 : Bi := fun xs => match xs with
  | [.int i, .int j] => some (.int (if j > i then j else i))
  | _ => none
def bMin2 : Bi := fun xs => match xs with
  | [.int i, .int j] => some (.int (if j < i then j else i))
  | _ => none
def bDivmod : Bi := fun xs => match xs with
  | [.int i, .int j] => if decide (0 < j) && decide (j < 1073741824) then some (.tup [.int (i / j), .int (i % j)]) else none
  | _ => none
def bTuple : Bi := fun xs => match xs with
  | [.lst ys] => some (.tup ys)
  | [.tup ys] => some (.tup ys)
  | _ => none
def boolsOf : List D → Option (List Bool)
  | [] => some []
  | .bl b :: r => match boolsOf r with
    | some bs => some (b :: bs)
    | none => none
  | _ :: _ => none
/-- the truth of bools, of numbers -/
def truths : List D → Option (List Bool)
  | [] => some []
  | .bl b :: r => match truths r with
    | some bs => some (b :: bs)
    | none => none
  | .int i :: r => match truths r with
    | some bs => some ((i != 0) :: bs)
    | none => none
  | _ :: _ => none
def bAll : Bi := fun xs => match xs with
  | [.lst ys] => match truths ys with
    | some bs => some (.bl (bs.all id))
    | none => none
  | _ => none
def bAny : Bi := fun xs => match xs with
  | [.lst ys] => match truths ys with
    | some bs => some (.bl (bs.any id))
    | none => none
  | _ => none
def sumI : List Int → Int
  | [] => 0
  | n :: r => n + sumI r
def maxI : List Int → Option Int
  | [] => none
  | [n] => some n
  | n :: r => match maxI r with
    | some m => some (if n < m then m else n)
    | none => none
def minI : List Int → Option Int
  | [] => none
  | [n] => some n
  | n :: r => match minI r with
    | some m => some (if m < n then m else n)
    | none => none
def listOf : D → Option (List D)
  | .lst ys => some ys
  | _ => none
def bSum : Bi := fun xs => match xs with
  | [.lst ys] => (intsOf ys).map fun ns => .int (sumI ns)
  | _ => none
def bMax1 : Bi := fun xs => match xs with
  | [.lst ys] => match intsOf ys with
    | some ns => (maxI ns).map .int
    | none => none
  | _ => none
def bMin1 : Bi := fun xs => match xs with
  | [.lst ys] => match intsOf ys with
    | some ns => (minI ns).map .int
    | none => none
  | _ => none
/-- list(x) -/
def lList (a : CE) : CL := fun e s => (a e s).bind fun w s1 => match view w s1 with
  | some (.lst xs) => .ok xs s1
  | some (.tup xs) => .ok xs s1
  | some (.str t) => .ok (t.map fun c => .str [c]) s1
  | _ => .bad
/-- list(x) of a text -/
def lListS (a : CE) : CL := fun e s => (a e s).bind fun w s1 => match w with
  | .d (.str t) => .ok (t.map fun c => .str [c]) s1
  | _ => .bad
/-! ### methods -/
def cAppend (a b : CE) : CE := fun e s => (a e s).bind fun w s1 => match w with
  | .ref i => match s1.get i with
    | some (.lst _) => (b e s1).bind fun y s2 => match y, s2.get i with
      | .d y, some (.lst xs) => if xs.length < LIM then .ok (.d .non) (s2.put i (.lst (xs ++ [y]))) else .bad
      | _, _ => .bad
    | _ => .bad
  | .d _ => .bad
def cExtend (a b : CE) : CE := fun e s => (a e s).bind fun w s1 => match w with
  | .ref i => match s1.get i with
    | some (.lst _) => (b e s1).bind fun y s2 => match view y s2, s2.get i with
      | some y, some (.lst xs) => match itemsOf y with
        | some ys => if xs.length + ys.length ≤ LIM then .ok (.d .non) (s2.put i (.lst (xs ++ ys))) else .bad
        | none => .bad
      | _, _ => .bad
    | _ => .bad
  | .d _ => .bad
/-- extend by a new list -/
def cExtendL (a : CE) (b : CL) : CE := fun e s => (a e s).bind fun w s1 => match w with
  | .ref i => match s1.get i with
    | some (.lst _) => (b e s1).bind fun ys s2 => match s2.get i with
      | some (.lst xs) => if xs.length + ys.length ≤ LIM then .ok (.d .non) (s2.put i (.lst (xs ++ ys))) else .bad
      | _ => .bad
    | _ => .bad
  | .d _ => .bad
def cPop (a : CE) : CE := fun e s => (a e s).bind fun w s1 => match w with
  | .ref i => match s1.get i with
    | some (.lst xs) => match xs.getLast? with
      | some y => .ok (.d y) (s1.put i (.lst xs.dropLast))
      | none => .bad
    | _ => .bad
  | .d _ => .bad
/-- a text's method -/
abbrev SMt := List Nat → List D → Option D
def cStrM (k : SMt) (a : CE) (g : CA) : CE := fun e s => (a e s).bind fun w s1 => match w with
  | .d (.str t) => (g e s1).bind fun ws s2 => match viewAll ws s2 with
    | some xs => match k t xs with
      | some y => .ok (.d y) s2
      | none => .bad
    | none => .bad
  | _ => .bad
def joinN (sep : List Nat) : List (List Nat) → List Nat
  | [] => []
  | [x] => x
  | x :: y :: r => x ++ sep ++ joinN sep (y :: r)
def strsOf : List D → Option (List (List Nat))
  | [] => some []
  | .str x :: r => match strsOf r with
    | some xs => some (x :: xs)
    | none => none
  | _ :: _ => none
def sumLen : List (List Nat) → Nat
  | [] => 0
  | x :: r => x.length + sumLen r
def kJoin : SMt := fun t xs => match xs with
  | [x] => match itemsOf x with
    | some ys => match strsOf ys with
      | some ss => if sumLen ss + ss.length * t.length ≤ LIM then some (.str (joinN t ss)) else none
      | none => none
    | none => none
  | _ => none
def posOf (c : Nat) : List Nat → Option Nat
  | [] => none
  | x :: r => if x = c then some 0 else (posOf c r).map (· + 1)
def kIndex : SMt := fun t xs => match xs with
  | [.str [c]] => (posOf c t).map fun i => .int (i : Int)
  | _ => none

/-- what isinstance asks for -/
inductive Ty where
  | int | str | bool | tuple | list | dict | own (c : Nat)
def isInst (t : Ty) (x : D) : Option Bool := match t, x with
  | .int, .int _ => some true
  | .int, .bl _ => some true
  | .str, .str _ => some true
  | .bool, .bl _ => some true
  | .tuple, .tup _ => some true
  | .list, .lst _ => some true
  | .dict, .dic _ _ => some true
  | .own c, .obj d _ => some (c == d)
  | _, .lck _ => none
  | _, _ => some false
def cIs (t : Ty) (a : CE) : CE := fun e s => (a e s).bind fun w s1 => match view w s1 with
  | some x => match isInst t x with
    | some b => .ok (.d (.bl b)) s1
    | none => .bad
  | none => .bad
/-- a star among items -/
def aStar (a : CE) (r : CA) : CA := fun e s => (a e s).bind fun w s1 => match view w s1 with
  | some x => match itemsOf x with
    | some xs => (r e s1).bind fun ys s2 => .ok (xs.map W.d ++ ys) s2
    | none => .bad
  | none => .bad
/-- an item of a list, a tuple, a text; of a dict -/
def oIdxA : Op2 := fun x y => match x with
  | .dic _ _ => oIdxD x y
  | _ => oIdx x y
/-- (a, b, ..) = (x, y, ..), one behind another -/
def sParT (n : Nat) (a : CA) (gs : List TG) : CS := fun e s => (a e s).toF e fun ws s1 => if ws.length = n then (gAll gs ws e s1).toF e fun e1 s2 => .nx e1 s2 else .bad
/-! ### tables -/
def ixOf : List (Nat × Nat) → Nat → Option Nat
  | [], _ => none
  | (a, b) :: r, c => if Nat.beq a c = true then some b else ixOf r c
def subOf : List (Nat × Nat × Bool) → Nat → Nat → Option Bool
  | [], _, _ => none
  | (a, b, v) :: r, c, d => if Nat.beq a c && Nat.beq b d then some v else subOf r c d
def WFUEL : Nat := 1000000
end Z
end

section
set_option Elab.async false
set_option linter.all false
set_option maxRecDepth 100000
set_option maxHeartbeats 2000000
/-! The judgements: a piece of the program is simulated by a function of the plain side. -/
namespace Z
open PySem PySem.Spec PyProof.Rows L2

abbrev vstr (s : List Nat) : V := .str ⟨s.toArray⟩
def keyOf : Kd → Key
  | .i i => .inl i
  | .s s => .inr ⟨s.toArray⟩
/-- where classes stand, what an exception's field is called -/
structure Cg where
  cl : Nat → Addr
  xf : Nat → Option Str
  kn : Nat → Bool

/-- a list, a tuple that stays as it is -/
def ZL (Zf : Addr → Prop) (H : Hp) (a : Addr) (vs : List V) : Prop := H a = some (.lst vs) ∧ ¬ Zf a
def ZT (K : PySem.W.Frag) (Zf : Addr → Prop) (H : Hp) (a : Addr) (vs : List V) : Prop := (Rd H a (.tup vs) ∧ ¬ Zf a) ∨
  ∃ (o : Obj) (its : Array Value) (n : Nat), K.lookup a = some o ∧ o.cls = .type "tuple" ∧ o.data = .seq its n ∧ its.size ≤ sizeLine ∧ Vals vs its.toList
/-- the script -/
def ZK (K : PySem.W.Frag) (Zf : Addr → Prop) (H : Hp) (a : Addr) (vs : List V) : Prop := (Rd H a (.lst vs) ∧ ¬ Zf a) ∨
  ∃ (o : Obj) (its : Array Value) (n : Nat), K.lookup a = some o ∧ o.cls = .type "list" ∧ o.dict = none ∧ o.data = .seq its n ∧ its.size ≤ sizeLine ∧ Vals vs its.toList
theorem ZK.sq {K Zf H a vs} (h : ZK K Zf H a vs) : SqL K H a vs := h.elim (fun h => .inl h.1) .inr
theorem ZL.sq {K Zf H a vs} (h : ZL Zf H a vs) : SqL K H a vs := SqL.of h.1
theorem ZT.sq {K Zf H a vs} (h : ZT K Zf H a vs) : SqT K H a vs := h.elim (fun h => .inl h.1) .inr

mutual
def RD (K : PySem.W.Frag) (C : Cg) (Zf : Addr → Prop) (H : Hp) : D → V → Prop
  | .non, v => v = .non
  | .bl b, v => v = .bl b
  | .int i, v => v = .int i
  | .str s, v => v = vstr s ∧ s.length ≤ 16777216
  | .lck ns, v => ∃ a, v = .ref a ∧ ZK K Zf H a (ns.map V.int)
  | .tup xs, v => ∃ a vs, v = .ref a ∧ ZT K Zf H a vs ∧ RDs K C Zf H xs vs
  | .lst xs, v => ∃ a vs, v = .ref a ∧ ZL Zf H a vs ∧ RDs K C Zf H xs vs
  | .dic ks xs, v => ∃ a vs, v = .ref a ∧ H a = some (.dK ((ks.map keyOf).zip vs)) ∧ ¬ Zf a ∧ ks.length = vs.length ∧ RDs K C Zf H xs vs
  | .obj c xs, v => ∃ a dx vs, v = .ref a ∧ C.kn c = true ∧ H a = some (SlX.SlO a (C.cl c) dx (vs.map some)) ∧ H dx = some (.xd []) ∧ ¬ Zf a ∧ ¬ Zf dx ∧ RDs K C Zf H xs vs
def RDs (K : PySem.W.Frag) (C : Cg) (Zf : Addr → Prop) (H : Hp) : List D → List V → Prop
  | [], vs => vs = []
  | x :: xs, vs => ∃ v r, vs = v :: r ∧ RD K C Zf H x v ∧ RDs K C Zf H xs r
end

/-- a world: which addresses may change, where the store's objects stand, the store, the heap -/
structure Wd where
  Zf : Addr → Prop
  m : Nat → Addr × Addr
  s : S
  H : Hp
def RW (K : PySem.W.Frag) (C : Cg) (w : Wd) : W → V → Prop
  | .d x, v => RD K C w.Zf w.H x v
  | .ref i, v => i < w.s.nx ∧ v = .ref (w.m i).1
def RWs (K : PySem.W.Frag) (C : Cg) (w : Wd) : List W → List V → Prop
  | [], vs => vs = []
  | x :: xs, vs => ∃ v r, vs = v :: r ∧ RW K C w x v ∧ RWs K C w xs r
/-- an object of the store -/
def RO (K : PySem.W.Frag) (C : Cg) (w : Wd) (a : Addr × Addr) : O → Prop
  | .lst xs => ∃ vs, w.H a.1 = some (.lst vs) ∧ RDs K C w.Zf w.H xs vs
  | .dic ks xs => ∃ vs, w.H a.1 = some (.dK ((ks.map keyOf).zip vs)) ∧ ks.length = vs.length ∧ RDs K C w.Zf w.H xs vs
  | .ins c fs => ∃ vs, C.kn c = true ∧ SlX.Slt w.H a.1 (C.cl c) a.2 vs ∧ a.2 ≠ a.1 ∧ vs.length = fs.length ∧ (∀ (i : Nat) (x : W), fs[i]? = some (some x) → ∃ v, vs[i]? = some (some v) ∧ RW K C w x v)
def foot (a : Addr × Addr) : O → List Addr
  | .ins _ _ => [a.1, a.2]
  | _ => [a.1]
/-- what is fixed through a def's run: the heap at its entry, what of it may change, what belongs to callers -/
structure Pm where
  H0 : Hp
  own0 : Addr → Prop
  zc : Addr → Prop
structure Rel (K : PySem.W.Frag) (C : Cg) (P : Pm) (w : Wd) : Prop where
  obj : ∀ i o, w.s.get i = some o → RO K C w (w.m i) o
  own : ∀ i o, w.s.get i = some o → ∀ b ∈ foot (w.m i) o, w.Zf b ∧ (P.own0 b ∨ P.H0 b = none) ∧ ¬ P.zc b
  inj : ∀ i j o u, w.s.get i = some o → w.s.get j = some u → i ≠ j → ∀ b ∈ foot (w.m i) o, b ∉ foot (w.m j) u
  zc : ∀ a, P.zc a → w.Zf a
  zin : ∀ a, w.Zf a → ∃ o, w.H a = some o
  keep : ∀ a o, P.H0 a = some o → ¬ P.own0 a → w.H a = some o
  lt : ∀ i o, w.s.get i = some o → i < w.s.nx
structure Step (K : PySem.W.Frag) (C : Cg) (P : Pm) (w w' : Wd) : Prop where
  rel : Rel K C P w'
  ext : ∀ a o, w.H a = some o → ¬ w.Zf a → w'.H a = some o
  zm : ∀ a, w'.Zf a → w.Zf a ∨ w.H a = none
  mx : ∀ i, i < w.s.nx → w'.m i = w.m i
  nx : w.s.nx ≤ w'.s.nx

section
variable {K : PySem.W.Frag} {C : Cg} {P : Pm} {w w1 w2 : Wd} {Zf Zf' : Addr → Prop} {H H' : Hp}
theorem rd_ext {H H' : Hp} {a : Addr} {u : HO} (e : ∀ o, H a = some o → H' a = some o) (h : Rd H a u) : Rd H' a u := by
  rcases h with h | ⟨o, h⟩
  · exact .inl (e _ h)
  · exact .inr ⟨o, e _ h⟩
theorem rd_there {H : Hp} {a : Addr} {u : HO} (h : Rd H a u) : ∃ o, H a = some o := by
  rcases h with h | ⟨o, h⟩
  · exact ⟨_, h⟩
  · exact ⟨_, h⟩
/-- what makes relations last -/
structure Ex (Zf : Addr → Prop) (H : Hp) (Zf' : Addr → Prop) (H' : Hp) : Prop where
  ext : ∀ a o, H a = some o → ¬ Zf a → H' a = some o
  zm : ∀ a, Zf' a → Zf a ∨ H a = none
theorem Ex.nz (e : Ex Zf H Zf' H') {a : Addr} {o : HO} (h : H a = some o) (z : ¬ Zf a) : ¬ Zf' a := fun q => (e.zm a q).elim z fun n => by rw [n] at h; cases h
theorem ZL.mono (e : Ex Zf H Zf' H') {a vs} (h : ZL Zf H a vs) : ZL Zf' H' a vs := ⟨e.ext _ _ h.1 h.2, e.nz h.1 h.2⟩
theorem ZT.mono (e : Ex Zf H Zf' H') {a vs} (h : ZT K Zf H a vs) : ZT K Zf' H' a vs := by
  rcases h with ⟨h, z⟩ | h
  · obtain ⟨o, ho⟩ := rd_there h
    exact .inl ⟨rd_ext (fun o q => e.ext _ o q z) h, e.nz ho z⟩
  · exact .inr h
theorem ZK.mono (e : Ex Zf H Zf' H') {a vs} (h : ZK K Zf H a vs) : ZK K Zf' H' a vs := by
  rcases h with ⟨h, z⟩ | h
  · obtain ⟨o, ho⟩ := rd_there h
    exact .inl ⟨rd_ext (fun o q => e.ext _ o q z) h, e.nz ho z⟩
  · exact .inr h
mutual
theorem RD.mono (e : Ex Zf H Zf' H') : ∀ (x : D) (v : V), RD K C Zf H x v → RD K C Zf' H' x v
  | .non, v, h => by simpa only [RD] using h
  | .bl b, v, h => by simpa only [RD] using h
  | .int b, v, h => by simpa only [RD] using h
  | .str b, v, h => by simpa only [RD] using h
  | .lck ns, v, h => by
    simp only [RD] at h ⊢
    obtain ⟨a, rfl, h1⟩ := h
    exact ⟨a, rfl, h1.mono e⟩
  | .tup xs, v, h => by
    simp only [RD] at h ⊢
    obtain ⟨a, vs, rfl, h1, h2⟩ := h
    exact ⟨a, vs, rfl, h1.mono e, RDs.mono e xs vs h2⟩
  | .lst xs, v, h => by
    simp only [RD] at h ⊢
    obtain ⟨a, vs, rfl, h1, h2⟩ := h
    exact ⟨a, vs, rfl, h1.mono e, RDs.mono e xs vs h2⟩
  | .dic ks xs, v, h => by
    simp only [RD] at h ⊢
    obtain ⟨a, vs, rfl, h1, h2, h3, h4⟩ := h
    exact ⟨a, vs, rfl, e.ext _ _ h1 h2, e.nz h1 h2, h3, RDs.mono e xs vs h4⟩
  | .obj c xs, v, h => by
    simp only [RD] at h ⊢
    obtain ⟨a, dx, vs, rfl, h0, h1, h2, h3, h4, h5⟩ := h
    exact ⟨a, dx, vs, rfl, h0, e.ext _ _ h1 h3, e.ext _ _ h2 h4, e.nz h1 h3, e.nz h2 h4, RDs.mono e xs vs h5⟩
theorem RDs.mono (e : Ex Zf H Zf' H') : ∀ (xs : List D) (vs : List V), RDs K C Zf H xs vs → RDs K C Zf' H' xs vs
  | [], vs, h => by simpa only [RDs] using h
  | x :: xs, vs, h => by
    simp only [RDs] at h ⊢
    obtain ⟨v, r, rfl, h1, h2⟩ := h
    exact ⟨v, r, rfl, RD.mono e x v h1, RDs.mono e xs r h2⟩
end
theorem Step.ex (t : Step K C P w w1) : Ex w.Zf w.H w1.Zf w1.H := ⟨t.ext, t.zm⟩
theorem Step.refl (r : Rel K C P w) : Step K C P w w := ⟨r, fun _ _ h _ => h, fun _ h => .inl h, fun _ _ => rfl, Nat.le_refl _⟩
theorem Step.trans (a : Step K C P w w1) (b : Step K C P w1 w2) : Step K C P w w2 where
  rel := b.rel
  ext := fun x o h z => b.ext x o (a.ext x o h z) (a.ex.nz h z)
  zm := fun x h => (b.zm x h).elim (a.zm x) fun n => by
    by_cases z : w.Zf x
    · exact .inl z
    · refine .inr ?_
      cases q : w.H x with
      | none => rfl
      | some o => rw [a.ext x o q z] at n; cases n
  mx := fun i h => (b.mx i (Nat.lt_of_lt_of_le h a.nx)).trans (a.mx i h)
  nx := Nat.le_trans a.nx b.nx
/-- a value as it is looked at now -/
def RV (K : PySem.W.Frag) (C : Cg) (w : Wd) : D → V → Prop
  | .lst xs, v => ∃ a vs, v = .ref a ∧ w.H a = some (.lst vs) ∧ RDs K C w.Zf w.H xs vs
  | .dic ks xs, v => ∃ a vs, v = .ref a ∧ w.H a = some (.dK ((ks.map keyOf).zip vs)) ∧ ks.length = vs.length ∧ RDs K C w.Zf w.H xs vs
  | x, v => RD K C w.Zf w.H x v
theorem RD.rv : ∀ {x : D} {v : V}, RD K C w.Zf w.H x v → RV K C w x v
  | .non, _, h => h
  | .bl _, _, h => h
  | .int _, _, h => h
  | .str _, _, h => h
  | .tup _, _, h => h
  | .lck _, _, h => h
  | .obj _ _, _, h => h
  | .lst xs, v, h => by
    simp only [RD] at h
    obtain ⟨a, vs, e, h1, h2⟩ := h
    exact ⟨a, vs, e, h1.1, h2⟩
  | .dic ks xs, v, h => by
    simp only [RD] at h
    obtain ⟨a, vs, e, h1, h2, h3, h4⟩ := h
    exact ⟨a, vs, e, h1, h3, h4⟩
theorem RW.mono (t : Step K C P w w1) {x : W} {v : V} (h : RW K C w x v) : RW K C w1 x v := by
  cases x with
  | d x => exact RD.mono t.ex x v h
  | ref i => exact ⟨Nat.lt_of_lt_of_le h.1 t.nx, by rw [t.mx i h.1]; exact h.2⟩
theorem RWs.mono (t : Step K C P w w1) : ∀ {xs : List W} {vs : List V}, RWs K C w xs vs → RWs K C w1 xs vs
  | [], _, h => h
  | _ :: _, _, ⟨v, r, e, h1, h2⟩ => ⟨v, r, e, RW.mono t h1, RWs.mono t h2⟩
theorem view_rv (R : Rel K C P w) {x : W} {v : V} {d : D} (h : RW K C w x v) (e : view x w.s = some d) : RV K C w d v := by
  cases x with
  | d x =>
    obtain rfl := Option.some.inj e
    exact RD.rv h
  | ref i =>
    unfold view at e
    dsimp only at e
    cases q : w.s.get i with
    | none => rw [q] at e; cases e
    | some o =>
      rw [q] at e
      have ho := R.obj i o q
      cases o with
      | lst xs =>
        obtain rfl := Option.some.inj e
        obtain ⟨vs, h1, h2⟩ := ho
        exact ⟨_, vs, h.2, h1, h2⟩
      | dic ks xs =>
        obtain rfl := Option.some.inj e
        obtain ⟨vs, h1, h2, h3⟩ := ho
        exact ⟨_, vs, h.2, h1, h2, h3⟩
      | ins c fs => cases e
/-- the names of a def -/
structure RE (K : PySem.W.Frag) (C : Cg) (w : Wd) (env : Env) (σ : L2.St) : Prop where
  len : env.length = σ.length
  at_ : ∀ (i : Nat) (x : W), env[i]? = some (some x) → ∃ v, σ[i]? = some (some v) ∧ RW K C w x v
theorem RE.mono (t : Step K C P w w1) {env : Env} {σ : L2.St} (h : RE K C w env σ) : RE K C w1 env σ :=
  ⟨h.len, fun i x e => let ⟨v, q, r⟩ := h.at_ i x e; ⟨v, q, RW.mono t r⟩⟩
theorem RE.set {env : Env} {σ : L2.St} {i : Nat} {x : W} {v : V} (h : RE K C w env σ) (r : RW K C w x v) : RE K C w (env.set i (some x)) (σ.set i (some v)) := by
  refine ⟨by simp [h.len], fun j y e => ?_⟩
  by_cases hj : j = i
  · subst hj
    have hlt : j < env.length := by
      have := (List.getElem?_eq_some_iff.mp e).1
      simpa using this
    rw [List.getElem?_set_self hlt] at e
    obtain rfl : x = y := by simpa using e
    exact ⟨v, List.getElem?_set_self (by rw [← h.len]; exact hlt), r⟩
  · rw [List.getElem?_set_ne (Ne.symm hj)] at e ⊢
    exact h.at_ j y e
theorem RE.none {env : Env} {σ : L2.St} {i : Nat} (h : RE K C w env σ) : RE K C w (env.set i none) (σ.set i none) := by
  refine ⟨by simp [h.len], fun j y e => ?_⟩
  by_cases hj : j = i
  · subst hj
    have hlt : j < env.length := by
      have := (List.getElem?_eq_some_iff.mp e).1
      simpa using this
    rw [List.getElem?_set_self hlt] at e
    cases e
  · rw [List.getElem?_set_ne (Ne.symm hj)] at e ⊢
    exact h.at_ j y e
theorem RE.wipe {env : Env} {σ : L2.St} (h : RE K C w env σ) : ∀ vs : List Nat, RE K C w (wipeE env vs) (wipe σ vs)
  | [] => h
  | v :: vs => (RE.wipe h vs).none

/-- an exception -/
def XR (K : PySem.W.Frag) (C : Cg) (w : Wd) (x : Exn) (c : Value) (o : Option Addr) : Prop := c = .ref (C.cl x.c) ∧ ∀ f, C.xf x.c = some f → ∃ d v, o = some d ∧ w.H d = some (.xd [(f, v)]) ∧ ¬ w.Zf d ∧ RD K C w.Zf w.H x.a v
theorem XR.mono (t : Step K C P w w1) {x : Exn} {c : Value} {o : Option Addr} (h : XR K C w x c o) : XR K C w1 x c o :=
  ⟨h.1, fun f e => let ⟨d, v, e1, e2, e3, e4⟩ := h.2 f e; ⟨d, v, e1, t.ext _ _ e2 e3, t.ex.nz e2 e3, RD.mono t.ex _ _ e4⟩⟩

/-- what is wanted behind a result -/
def Out {α β : Type} (K : PySem.W.Frag) (C : Cg) (P : Pm) (U : WX) (σ : L2.St) (rel : Wd → α → β → Prop) (w : Wd) (r : RS α) (Q : β → Hp → Prop) : Prop := match r with
  | .ok a s' => ∀ w', w'.s = s' → Step K C P w w' → ∀ v, rel w' a v → Q v w'.H
  | .exc x s' => ∀ w', w'.s = s' → Step K C P w w' → ∀ c o, XR K C w' x c o → U c o σ w'.H
  | .bad => False
theorem Out.mono {α β : Type} {U : WX} {σ : L2.St} {rel : Wd → α → β → Prop} {r : RS α} {Q : β → Hp → Prop} (t : Step K C P w w1) (h : Out K C P U σ rel w r Q) : Out K C P U σ rel w1 r Q := by
  cases r with
  | ok a s => exact fun w' e st v q => h w' e (t.trans st) v q
  | exc x s => exact fun w' e st c o q => h w' e (t.trans st) c o q
  | bad => exact h
theorem Out.bind {α β γ δ : Type} {U : WX} {σ : L2.St} {rel : Wd → α → β → Prop} {rel2 : Wd → γ → δ → Prop} {r : RS α} {k : α → S → RS γ} {Q : δ → Hp → Prop} (h : Out K C P U σ rel2 w (r.bind k) Q) {Q1 : β → Hp → Prop}
    (q : ∀ w1 a v, Step K C P w w1 → rel w1 a v → Out K C P U σ rel2 w1 (k a w1.s) Q → Q1 v w1.H) : Out K C P U σ rel w r Q1 := by
  cases r with
  | ok a s =>
    intro w1 e st v ra
    subst e
    exact q w1 a v st ra (Out.mono st h)
  | exc x s => exact h
  | bad => exact h
/-- all that may be read off an expression -/
def EX (X : Cx) (e : Expr) : TE := fun σ H Q => ∀ (pins : List (Addr × Obj)) (s : Shared), Inv X pins σ H s → wpAny (model X.prog X.w) X.A (eval e X.env) (EP X pins σ Q) X.xe s
theorem pe_ex {X : Cx} {e : Expr} : PE X e (EX X e) := ⟨fun pins s σ H Q I h => h pins s I⟩
theorem ex_of {X : Cx} {e : Expr} {t : TE} {σ : L2.St} {H : Hp} {Q : VK} (h : PE X e t) (q : t σ H Q) : EX X e σ H Q := fun pins s I => h.run pins s σ H Q I q
def TX (X : Cx) (e : Expr) : TT := fun σ H Q => ∀ (pins : List (Addr × Obj)) (s : Shared), Inv X pins σ H s → wpAny (model X.prog X.w) X.A (isTrue e X.env (eval e X.env)) (TP X pins σ Q) X.xe s
theorem pt_tx {X : Cx} {e : Expr} : PT X e (TX X e) := ⟨fun pins s σ H Q I h => h pins s I⟩
theorem tx_of {X : Cx} {e : Expr} {t : TT} {σ : L2.St} {H : Hp} {Q : Bool → Hp → Prop} (h : PT X e t) (q : t σ H Q) : TX X e σ H Q := fun pins s I => h.run pins s σ H Q I q
/-- an expression is simulated -/
def SE (C : Cg) (X : Cx) (e : Expr) (f : CE) : Prop := ∀ (P : Pm) (U : WX) (w : Wd) (env : Env) (σ : L2.St) (Q : VK), Takes X U → Rel X.K C P w → RE X.K C w env σ → Out X.K C P U σ (RW X.K C) w (f env w.s) Q → EX X e σ w.H Q
/-- .. to a new list -/
def RL (K : PySem.W.Frag) (C : Cg) (w : Wd) (xs : List D) (v : V) : Prop := ∃ a vs, v = .ref a ∧ w.H a = some (.lst vs) ∧ ¬ w.Zf a ∧ RDs K C w.Zf w.H xs vs
/-- it was not there ahead -/
def RLn (K : PySem.W.Frag) (C : Cg) (P : Pm) (w0 : Wd) (w : Wd) (xs : List D) (v : V) : Prop := ∃ a vs, v = .ref a ∧ w.H a = some (.lst vs) ∧ ¬ w.Zf a ∧ w0.H a = none ∧ RDs K C w.Zf w.H xs vs
def SL (C : Cg) (X : Cx) (e : Expr) (f : CL) : Prop := ∀ (P : Pm) (U : WX) (w : Wd) (env : Env) (σ : L2.St) (Q : VK), Takes X U → Rel X.K C P w → RE X.K C w env σ → Out X.K C P U σ (RLn X.K C P w) w (f env w.s) Q → EX X e σ w.H Q
/-- a test -/
def ST (C : Cg) (X : Cx) (e : Expr) (f : CT) : Prop := ∀ (P : Pm) (U : WX) (w : Wd) (env : Env) (σ : L2.St) (Q : Bool → Hp → Prop), Takes X U → Rel X.K C P w → RE X.K C w env σ → Out X.K C P U σ (fun _ a b => a = b) w (f env w.s) Q → TX X e σ w.H Q
section
variable {X : Cx} {U : WX} {σ : L2.St} {env : Env} {e : Expr}
theorem SE.go {f : CE} (ha : SE C X e f) (tk : Takes X U) (R : Rel X.K C P w) (E : RE X.K C w env σ) {γ δ : Type} {rel2 : Wd → γ → δ → Prop} {k : W → S → RS γ} {Q2 : δ → Hp → Prop} (h : Out X.K C P U σ rel2 w ((f env w.s).bind k) Q2) {Q : VK}
    (q : ∀ w1 a v, Step X.K C P w w1 → RW X.K C w1 a v → RE X.K C w1 env σ → Out X.K C P U σ rel2 w1 (k a w1.s) Q2 → Q v w1.H) : EX X e σ w.H Q :=
  ha P U w env σ Q tk R E (Out.bind h fun w1 a v st ra h1 => q w1 a v st ra (E.mono st) h1)
theorem ST.go {f : CT} (ha : ST C X e f) (tk : Takes X U) (R : Rel X.K C P w) (E : RE X.K C w env σ) {γ δ : Type} {rel2 : Wd → γ → δ → Prop} {k : Bool → S → RS γ} {Q2 : δ → Hp → Prop} (h : Out X.K C P U σ rel2 w ((f env w.s).bind k) Q2) {Q : Bool → Hp → Prop}
    (q : ∀ w1 b, Step X.K C P w w1 → RE X.K C w1 env σ → Out X.K C P U σ rel2 w1 (k b w1.s) Q2 → Q b w1.H) : TX X e σ w.H Q :=
  ha P U w env σ Q tk R E (Out.bind h fun w1 a v st ra h1 => by subst ra; exact q w1 a st (E.mono st) h1)
/-- an operation's rule, taken whole -/
def rmax (X : Cx) (f : Value → Value → Sem Value) : R2 := fun x y H Q => ∀ (pins : List (Addr × Obj)) (s : Shared) (σ : L2.St) (v u : Value), Inv X pins σ H s → RelV x v → RelV y u → wpAny (model X.prog X.w) X.A (f v u) (EP X pins σ Q) X.xe s
theorem rmax_ok {f : Value → Value → Sem Value} : OpR X f (rmax X f) := fun pins s σ H x y v u Q I rx ry h => h pins s σ v u I rx ry
theorem rmax_of {f : Value → Value → Sem Value} {r : R2} (o : OpR X f r) {x y : V} {H : Hp} {Q : VK} (h : r x y H Q) : rmax X f x y H Q := fun pins s σ v u I rx ry => o pins s σ H x y v u Q I rx ry h
/-- what an operation on values must do -/
def OpOk (C : Cg) (X : Cx) (f : Value → Value → Sem Value) (k : Op2) : Prop := ∀ (P : Pm) (w : Wd) (x y z : D) (v u : V) (Q : VK), Rel X.K C P w → RV X.K C w x v → RV X.K C w y u → k x y = some z →
  (∀ w' r, w'.s = w.s → Step X.K C P w w' → RD X.K C w'.Zf w'.H z r → Q r w'.H) → rmax X f v u w.H Q
theorem cOp_end {f : Value → Value → Sem Value} {k : Op2} (o : OpOk C X f k) (R : Rel X.K C P w) {a b : W} {v u : V} (ra : RW X.K C w a v) (rb : RW X.K C w b u) {Q : VK}
    (h : Out X.K C P U σ (RW X.K C) w (match view a w.s, view b w.s with
      | some u, some v => match k u v with
        | some z => .ok (.d z) w.s
        | none => .bad
      | _, _ => .bad) Q) : rmax X f v u w.H Q := by
  cases ea : view a w.s with
  | none => rw [ea] at h; exact h.elim
  | some x =>
    cases eb : view b w.s with
    | none => rw [ea, eb] at h; exact h.elim
    | some y =>
      rw [ea, eb] at h
      dsimp only at h
      cases ez : k x y with
      | none => rw [ez] at h; exact h.elim
      | some z =>
        rw [ez] at h
        exact o P w x y z v u Q R (view_rv R ra ea) (view_rv R rb eb) ez fun w' r e st q => h w' e st r q
theorem se_op {a b : Expr} {op : Operator} {pos : Pos} {fa fb : CE} {k : Op2} (o : OpOk C X (binaryOp op) k) (ha : SE C X a fa) (hb : SE C X b fb) : SE C X (.BinOp a op b pos) (cOp k fa fb) := by
  intro P U w env σ Q tk R E h
  refine ex_of (pe_op rmax_ok pe_ex pe_ex) ?_
  refine ha.go tk R E h fun w1 x v st ra E1 h1 => ?_
  refine hb.go tk st.rel E1 h1 fun w2 y u st2 rb E2 h2 => ?_
  exact cOp_end o st2.rel (RW.mono st2 ra) rb h2
end
end
end Z
end

section
set_option Elab.async false
set_option linter.all false
set_option maxRecDepth 100000
set_option maxHeartbeats 2000000
/-! Steps of worlds. -/
namespace Z
open PySem PySem.Spec PyProof.Rows L2
section
variable {K : PySem.W.Frag} {C : Cg} {P : Pm} {w w' w1 w2 : Wd} {Zf Zf' : Addr → Prop} {H H' : Hp}
theorem RO.mono {a : Addr × Addr} {o : O} (e : Ex w.Zf w.H w'.Zf w'.H) (hf : ∀ b ∈ foot a o, w'.H b = w.H b) (mx : ∀ i, i < w.s.nx → w'.m i = w.m i) (nx : w.s.nx ≤ w'.s.nx) (h : RO K C w a o) : RO K C w' a o := by
  cases o with
  | lst xs =>
    obtain ⟨vs, h1, h2⟩ := h
    exact ⟨vs, (hf a.1 (by simp [foot])).trans h1, RDs.mono e _ _ h2⟩
  | dic ks xs =>
    obtain ⟨vs, h1, h2, h3⟩ := h
    exact ⟨vs, (hf a.1 (by simp [foot])).trans h1, h2, RDs.mono e _ _ h3⟩
  | ins c fs =>
    obtain ⟨vs, h0, h1, h2, hl, h3⟩ := h
    have e1 := hf a.1 (by simp [foot])
    have e2 := hf a.2 (by simp [foot])
    refine ⟨vs, h0, ?_, h2, hl, fun i x q => ?_⟩
    · rcases h1 with ⟨q1, q2⟩ | ⟨q1, q2⟩
      · exact .inl ⟨e1.trans q1, q2⟩
      · exact .inr ⟨e1.trans q1, e2.trans q2⟩
    · obtain ⟨v, q1, q2⟩ := h3 i x q
      refine ⟨v, q1, ?_⟩
      cases x with
      | d x => exact RD.mono e x v q2
      | ref j => exact ⟨Nat.lt_of_lt_of_le q2.1 nx, by rw [mx j q2.1]; exact q2.2⟩
theorem ne_zf (R : Rel K C P w) {b p : Addr} (hb : w.Zf b) (hp : w.H p = none) : b ≠ p := fun e => by
  obtain ⟨o, q⟩ := R.zin b hb
  rw [e, hp] at q
  cases q
/-- a new object that does not change -/
theorem step_new (R : Rel K C P w) {p : Addr} (hp : w.H p = none) (o : HO) : Step K C P w { w with H := upd w.H p o } := by
  have ex : Ex w.Zf w.H w.Zf (upd w.H p o) := ⟨fun a u q _ => by rw [upd_ne (ne_of_none q hp)]; exact q, fun a q => .inl q⟩
  refine ⟨⟨fun i u q => ?_, R.own, R.inj, R.zc, fun a q => ?_, fun a u q z => ?_, R.lt⟩, ex.ext, ex.zm, fun _ _ => rfl, Nat.le_refl _⟩
  · exact RO.mono (w' := { w with H := upd w.H p o }) ex (fun b hb => upd_ne (ne_zf R (R.own i u q b hb).1 hp)) (fun _ _ => rfl) (Nat.le_refl _) (R.obj i u q)
  · show ∃ u, upd w.H p o a = some u
    rw [upd_ne (ne_zf R q hp)]
    exact R.zin a q
  · show upd w.H p o a = some u
    have := R.keep a u q z
    rw [upd_ne (ne_of_none this hp)]
    exact this
/-- the heap behind a call that keeps all -/
theorem step_same (R : Rel K C P w) {H' : Hp} (hs : Same w.H H') : Step K C P w { w with H := H' } := by
  have ex : Ex w.Zf w.H w.Zf H' := ⟨fun a u q _ => hs a u q, fun a q => .inl q⟩
  refine ⟨⟨fun i u q => ?_, R.own, R.inj, R.zc, fun a q => ?_, fun a u q z => ?_, R.lt⟩, ex.ext, ex.zm, fun _ _ => rfl, Nat.le_refl _⟩
  · refine RO.mono (w' := { w with H := H' }) ex (fun b hb => ?_) (fun _ _ => rfl) (Nat.le_refl _) (R.obj i u q)
    obtain ⟨o, ho⟩ := R.zin b (R.own i u q b hb).1
    rw [ho]
    exact hs b o ho
  · obtain ⟨o, ho⟩ := R.zin a q
    exact ⟨o, hs a o ho⟩
  · exact hs a u (R.keep a u q z)

/-! ### the store's list of objects -/
theorem get_add_same {s : S} {o : O} : (s.add o).get s.nx = some o := by simp [S.add, S.get, getO]
theorem get_add {s : S} {o : O} {i : Nat} (h : i ≠ s.nx) : (s.add o).get i = s.get i := by simp [S.add, S.get, getO, h]
theorem getO_setO {i j : Nat} {o : O} : ∀ l : List (Nat × O), getO j (setO i o l) = if j = i then (getO i l).map fun _ => o else getO j l
  | [] => by by_cases h : j = i <;> simp [setO, getO, h]
  | (k, u) :: r => by
    by_cases h : i = k
    · subst h
      by_cases hj : j = i
      · simp [setO, getO, hj]
      · simp [setO, getO, hj]
    · rw [setO, if_neg h]
      by_cases hj : j = i
      · subst hj
        simp only [getO, if_neg h, getO_setO r, if_pos]
      · by_cases hk : j = k
        · rw [if_neg hj, getO, getO, if_pos hk, if_pos hk]
        · rw [if_neg hj, getO, getO, if_neg hk, if_neg hk, getO_setO r, if_neg hj]
theorem get_put_same {s : S} {i : Nat} {o u : O} (h : s.get i = some u) : (s.put i o).get i = some o := by
  unfold S.put S.get at *
  rw [getO_setO, if_pos rfl, h]
  rfl
theorem get_put {s : S} {i j : Nat} {o : O} (h : j ≠ i) : (s.put i o).get j = s.get j := by
  unfold S.put S.get
  rw [getO_setO, if_neg h]
theorem getO_delO {i j : Nat} : ∀ l : List (Nat × O), getO j (delO i l) = if j = i then none else getO j l
  | [] => by simp [delO, getO]
  | (k, u) :: r => by
    by_cases h : i = k
    · subst h
      rw [delO, if_pos rfl, getO_delO r]
      by_cases hj : j = i
      · rw [if_pos hj, if_pos hj]
      · rw [if_neg hj, if_neg hj, getO, if_neg hj]
    · rw [delO, if_neg h]
      by_cases hj : j = i
      · subst hj
        rw [getO, if_neg h, getO_delO r, if_pos rfl, if_pos rfl]
      · by_cases hk : j = k
        · rw [if_neg hj, getO, getO, if_pos hk, if_pos hk]
        · rw [if_neg hj, getO, getO, if_neg hk, if_neg hk, getO_delO r, if_neg hj]
theorem get_del_same {s : S} {i : Nat} : (s.del i).get i = none := by
  unfold S.del S.get
  rw [getO_delO, if_pos rfl]
theorem get_del {s : S} {i j : Nat} (h : j ≠ i) : (s.del i).get j = s.get j := by
  unfold S.del S.get
  rw [getO_delO, if_neg h]
theorem getO_sweepO {n j : Nat} {w : W} : ∀ l : List (Nat × O), getO j (sweepO n w l) = if decide (j < n) || isRef j w then getO j l else none
  | [] => by simp [sweepO, getO]
  | (k, u) :: r => by
    by_cases h : (decide (k < n) || isRef k w) = true
    · rw [sweepO, if_pos h]
      by_cases hk : j = k
      · subst hk
        rw [getO, getO, if_pos rfl, if_pos rfl, if_pos h]
      · rw [getO, if_neg hk, getO_sweepO r, getO, if_neg hk]
    · rw [sweepO, if_neg h, getO_sweepO r]
      by_cases hk : j = k
      · subst hk
        rw [if_neg h, if_neg h]
      · rw [getO, if_neg hk]
theorem get_sweep {s : S} {n j : Nat} {w : W} : (s.sweep n w).get j = if decide (j < n) || isRef j w then s.get j else none := getO_sweepO _

/-! ### objects come, change, go -/
/-- a new object of the store at p (its dict at q) -/
theorem step_add (R : Rel K C P w) {p q : Addr} {o : O} {H' : Hp} (hp : ∀ b ∈ foot (p, q) o, w.H b = none) (hH : ∀ a, a ∉ foot (p, q) o → H' a = w.H a) (hnew : ∀ b ∈ foot (p, q) o, ∃ u, H' b = some u)
    (ho : ∀ wn : Wd, wn.H = H' → wn.s.nx = w.s.nx + 1 → Ex w.Zf w.H wn.Zf wn.H → (∀ i, i < w.s.nx → wn.m i = w.m i) → wn.m w.s.nx = (p, q) → RO K C wn (p, q) o) :
    Step K C P w ⟨fun a => w.Zf a ∨ a ∈ foot (p, q) o, fun i => if i = w.s.nx then (p, q) else w.m i, w.s.add o, H'⟩ := by
  have ex : Ex w.Zf w.H (fun a => w.Zf a ∨ a ∈ foot (p, q) o) H' := ⟨fun a u h _ => by rw [hH a fun z => by rw [hp a z] at h; cases h]; exact h, fun a h => h.imp id fun z => hp a z⟩
  have mx : ∀ i, i < w.s.nx → (if i = w.s.nx then (p, q) else w.m i) = w.m i := fun i h => if_neg (Nat.ne_of_lt h)
  have old : ∀ i u, (w.s.add o).get i = some u → i ≠ w.s.nx → w.s.get i = some u := fun i u h e => by rwa [get_add e] at h
  have zf : ∀ i u, w.s.get i = some u → ∀ b ∈ foot (w.m i) u, b ∉ foot (p, q) o := fun i u h b hb z => ne_zf R (R.own i u h b hb).1 (hp b z) rfl
  refine ⟨⟨fun i u h => ?_, fun i u h b hb => ?_, fun i j u v h1 h2 hij b hb => ?_, fun a h => .inl (R.zc a h), fun a h => ?_, fun a u h z => ?_, fun i u h => ?_⟩, ex.ext, ex.zm, mx, Nat.le_succ _⟩
  · by_cases hi : i = w.s.nx
    · subst hi
      rw [get_add_same] at h
      cases h
      show RO K C _ (if w.s.nx = w.s.nx then (p, q) else w.m w.s.nx) o
      rw [if_pos rfl]
      exact ho _ rfl rfl ex mx (if_pos rfl)
    · have h' := old i u h hi
      show RO K C _ (if i = w.s.nx then (p, q) else w.m i) u
      rw [if_neg hi]
      exact RO.mono (w' := ⟨fun a => w.Zf a ∨ a ∈ foot (p, q) o, fun i => if i = w.s.nx then (p, q) else w.m i, w.s.add o, H'⟩) ex (fun b hb => hH b (zf i u h' b hb)) mx (Nat.le_succ _) (R.obj i u h')
  · by_cases hi : i = w.s.nx
    · subst hi
      rw [get_add_same] at h
      cases h
      have hb : b ∈ foot (if w.s.nx = w.s.nx then (p, q) else w.m w.s.nx) o := hb
      rw [if_pos rfl] at hb
      refine ⟨.inr hb, ?_, fun z => ne_zf R (R.zc b z) (hp b hb) rfl⟩
      by_cases ow : P.own0 b
      · exact .inl ow
      · refine .inr ?_
        cases q0 : P.H0 b with
        | none => rfl
        | some u =>
          have := R.keep b u q0 ow
          rw [hp b hb] at this
          cases this
    · have h' := old i u h hi
      have hb : b ∈ foot (if i = w.s.nx then (p, q) else w.m i) u := hb
      rw [if_neg hi] at hb
      obtain ⟨a1, a2, a3⟩ := R.own i u h' b hb
      exact ⟨.inl a1, a2, a3⟩
  · have hb : b ∈ foot (if i = w.s.nx then (p, q) else w.m i) u := hb
    show b ∉ foot (if j = w.s.nx then (p, q) else w.m j) v
    by_cases hi : i = w.s.nx
    · subst hi
      rw [get_add_same] at h1
      cases h1
      rw [if_pos rfl] at hb
      have hj : j ≠ w.s.nx := fun e => hij e.symm
      rw [if_neg hj]
      exact fun z => zf j v (old j v h2 hj) b z hb
    · rw [if_neg hi] at hb
      by_cases hj : j = w.s.nx
      · subst hj
        rw [get_add_same] at h2
        cases h2
        rw [if_pos rfl]
        exact zf i u (old i u h1 hi) b hb
      · rw [if_neg hj]
        exact R.inj i j u v (old i u h1 hi) (old j v h2 hj) hij b hb
  · show ∃ u, H' a = some u
    rcases h with h | h
    · rw [hH a fun z => ne_zf R h (hp a z) rfl]
      exact R.zin a h
    · exact hnew a h
  · have := R.keep a u h z
    show H' a = some u
    rw [hH a fun z => by rw [hp a z] at this; cases this]
    exact this
  · show i < w.s.nx + 1
    by_cases hi : i = w.s.nx
    · omega
    · have := R.lt i u (old i u h hi)
      omega
/-- an object of the store changes -/
theorem step_put (R : Rel K C P w) {i : Nat} {o o' : O} {H' : Hp} (h0 : w.s.get i = some o) (hf : foot (w.m i) o' = foot (w.m i) o) (hH : ∀ a, a ∉ foot (w.m i) o → H' a = w.H a) (hnew : ∀ b ∈ foot (w.m i) o, ∃ u, H' b = some u)
    (ho : ∀ wn : Wd, wn.H = H' → wn.s.nx = w.s.nx → Ex w.Zf w.H wn.Zf wn.H → wn.m = w.m → RO K C wn (w.m i) o') : Step K C P w ⟨w.Zf, w.m, w.s.put i o', H'⟩ := by
  have own := R.own i o h0
  have ex : Ex w.Zf w.H w.Zf H' := ⟨fun a u h z => by rw [hH a fun q => z (own a q).1]; exact h, fun a h => .inl h⟩
  have get : ∀ j u, (w.s.put i o').get j = some u → (j = i ∧ u = o') ∨ (j ≠ i ∧ w.s.get j = some u) := fun j u h => by
    by_cases hj : j = i
    · subst hj
      rw [get_put_same h0] at h
      exact .inl ⟨rfl, (Option.some.inj h).symm⟩
    · rw [get_put hj] at h
      exact .inr ⟨hj, h⟩
  refine ⟨⟨fun j u h => ?_, fun j u h b hb => ?_, fun j k u v h1 h2 hjk b hb => ?_, R.zc, fun a h => ?_, fun a u h z => ?_, fun j u h => ?_⟩, ex.ext, ex.zm, fun _ _ => rfl, Nat.le_refl _⟩
  · rcases get j u h with ⟨rfl, rfl⟩ | ⟨hj, h'⟩
    · exact ho _ rfl rfl ex rfl
    · exact RO.mono (w' := ⟨w.Zf, w.m, w.s.put i o', H'⟩) ex (fun b hb => hH b (R.inj j i u o h' h0 hj b hb)) (fun _ _ => rfl) (Nat.le_refl _) (R.obj j u h')
  · rcases get j u h with ⟨rfl, rfl⟩ | ⟨hj, h'⟩
    · have hb : b ∈ foot (w.m j) u := hb
      rw [hf] at hb
      exact own b hb
    · exact R.own j u h' b hb
  · have hb : b ∈ foot (w.m j) u := hb
    show b ∉ foot (w.m k) v
    rcases get j u h1 with ⟨rfl, rfl⟩ | ⟨hj, h1'⟩
    · rcases get k v h2 with ⟨rfl, rfl⟩ | ⟨hk, h2'⟩
      · exact absurd rfl hjk
      · rw [hf] at hb
        exact R.inj _ _ _ _ h0 h2' hjk b hb
    · rcases get k v h2 with ⟨rfl, rfl⟩ | ⟨hk, h2'⟩
      · rw [hf]
        exact R.inj _ _ _ _ h1' h0 hjk b hb
      · exact R.inj _ _ _ _ h1' h2' hjk b hb
  · show ∃ u, H' a = some u
    by_cases q : a ∈ foot (w.m i) o
    · exact hnew a q
    · rw [hH a q]
      exact R.zin a h
  · have := R.keep a u h z
    show H' a = some u
    have hn : a ∉ foot (w.m i) o := fun q => by
      rcases (own a q).2.1 with e | e
      · exact z e
      · rw [e] at h
        cases h
    rw [hH a hn]
    exact this
  · rcases get j u h with ⟨rfl, rfl⟩ | ⟨_, h'⟩
    · exact R.lt _ _ h0
    · exact R.lt _ _ h'
/-- some objects of the store are not changed any more -/
theorem step_drop (R : Rel K C P w) {s' : S} {Zf' : Addr → Prop} (hn : s'.nx = w.s.nx) (hs : ∀ i o, s'.get i = some o → w.s.get i = some o) (hz : ∀ a, Zf' a → w.Zf a) (hzc : ∀ a, P.zc a → Zf' a)
    (hzs : ∀ i o, s'.get i = some o → ∀ b ∈ foot (w.m i) o, Zf' b) : Step K C P w ⟨Zf', w.m, s', w.H⟩ := by
  have ex : Ex w.Zf w.H Zf' w.H := ⟨fun a u h _ => h, fun a h => .inl (hz a h)⟩
  refine ⟨⟨fun i u h => ?_, fun i u h b hb => ?_, fun i j u v h1 h2 => R.inj i j u v (hs i u h1) (hs j v h2), hzc, fun a h => R.zin a (hz a h), R.keep, fun i u h => ?_⟩, ex.ext, ex.zm, fun _ _ => rfl, Nat.le_of_eq hn.symm⟩
  · exact RO.mono (w' := ⟨Zf', w.m, s', w.H⟩) ex (fun _ _ => rfl) (fun _ _ => rfl) (Nat.le_of_eq hn.symm) (R.obj i u (hs i u h))
  · obtain ⟨_, a2, a3⟩ := R.own i u (hs i u h) b hb
    exact ⟨hzs i u h b hb, a2, a3⟩
  · show i < s'.nx
    rw [hn]
    exact R.lt i u (hs i u h)
/-- one object goes -/
theorem step_del (R : Rel K C P w) {i : Nat} {o : O} (h0 : w.s.get i = some o) : Step K C P w ⟨fun a => w.Zf a ∧ a ∉ foot (w.m i) o, w.m, w.s.del i, w.H⟩ := by
  have get : ∀ j u, (w.s.del i).get j = some u → j ≠ i ∧ w.s.get j = some u := fun j u h => by
    by_cases hj : j = i
    · subst hj
      rw [get_del_same] at h
      cases h
    · exact ⟨hj, by rwa [get_del hj] at h⟩
  refine step_drop R rfl (fun j u h => (get j u h).2) (fun a h => h.1) (fun a h => ⟨R.zc a h, fun z => (R.own i o h0 a z).2.2 h⟩) fun j u h b hb => ?_
  obtain ⟨hj, h'⟩ := get j u h
  exact ⟨(R.own j u h' b hb).1, R.inj j i u o h' h0 hj b hb⟩
/-- all that was made from n on goes, but for one -/
theorem step_sweep (R : Rel K C P w) (n : Nat) (x : W) : Step K C P w ⟨w.Zf, w.m, w.s.sweep n x, w.H⟩ := by
  have get : ∀ j u, (w.s.sweep n x).get j = some u → w.s.get j = some u := fun j u h => by
    rw [get_sweep] at h
    split at h
    · exact h
    · cases h
  exact step_drop R rfl get (fun a h => h) R.zc fun j u h b hb => (R.own j u (get j u h) b hb).1
end
end Z
end

section
set_option Elab.async false
set_option linter.all false
set_option maxRecDepth 100000
set_option maxHeartbeats 2000000
/-! Operations on values. -/
namespace Z
open PySem PySem.Spec PyProof.Rows L2
theorem lim_eq : LIM = sizeLine := by rw [sizeLine_eq]; rfl
theorem str_len (s : List Nat) : (⟨s.toArray⟩ : Str).length = s.length := by
  show s.toArray.size = _
  simp
theorem str_cps (s : List Nat) : (⟨s.toArray⟩ : Str).cps.toList = s := by simp
theorem str_app (a b : List Nat) : (⟨a.toArray⟩ : Str) ++ ⟨b.toArray⟩ = ⟨(a ++ b).toArray⟩ := by
  show (⟨a.toArray ++ b.toArray⟩ : Str) = _
  simp
theorem str_inj {a b : List Nat} (h : (⟨a.toArray⟩ : Str) = ⟨b.toArray⟩) : a = b := by
  have := congrArg (fun s : Str => s.cps.toList) h
  simpa using this
theorem str_beq (a b : List Nat) : ((⟨a.toArray⟩ : Str) == ⟨b.toArray⟩) = (a == b) := by
  by_cases h : a = b
  · subst h
    simp
  · have h2 : ¬ (⟨a.toArray⟩ : Str) = ⟨b.toArray⟩ := fun e => h (str_inj e)
    rw [beq_eq_false_iff_ne.mpr h2, beq_eq_false_iff_ne.mpr h]
section
variable {K : PySem.W.Frag} {C : Cg} {P : Pm} {w w' w1 w2 : Wd} {Zf Zf' : Addr → Prop} {H H' : Hp}
theorem RDs.length : ∀ {xs : List D} {vs : List V}, RDs K C Zf H xs vs → xs.length = vs.length
  | [], vs, h => by
    simp only [RDs] at h
    rw [h] <;> rfl
  | x :: xs, vs, h => by
    simp only [RDs] at h
    obtain ⟨v, r, rfl, _, h2⟩ := h
    rw [List.length_cons, List.length_cons, RDs.length h2]
theorem RDs.nil : RDs K C Zf H [] [] := by simp only [RDs]
theorem RDs.cons {x xs v vs} (h : RD K C Zf H x v) (t : RDs K C Zf H xs vs) : RDs K C Zf H (x :: xs) (v :: vs) := by
  simp only [RDs]
  exact ⟨v, vs, rfl, h, t⟩
theorem RDs.append : ∀ {xs ys : List D} {vs us : List V}, RDs K C Zf H xs vs → RDs K C Zf H ys us → RDs K C Zf H (xs ++ ys) (vs ++ us)
  | [], ys, vs, us, h, t => by
    simp only [RDs] at h
    subst h
    exact t
  | x :: xs, ys, vs, us, h, t => by
    simp only [RDs] at h
    obtain ⟨v, r, rfl, h1, h2⟩ := h
    exact .cons h1 (RDs.append h2 t)
theorem RDs.rep {xs : List D} {vs : List V} (h : RDs K C Zf H xs vs) : ∀ n, RDs K C Zf H (rep n xs) (List.replicate n vs).flatten
  | 0 => .nil
  | n + 1 => by
    rw [List.replicate_succ, List.flatten_cons]
    exact h.append (RDs.rep h n)
theorem RDs.get : ∀ {xs : List D} {vs : List V} {i : Nat} {x : D}, RDs K C Zf H xs vs → xs[i]? = some x → ∃ v, vs[i]? = some v ∧ RD K C Zf H x v
  | [], _, _, _, _, e => by simp at e
  | y :: xs, vs, i, x, h, e => by
    simp only [RDs] at h
    obtain ⟨v, r, rfl, h1, h2⟩ := h
    cases i with
    | zero =>
      obtain rfl : y = x := by simpa using e
      exact ⟨v, rfl, h1⟩
    | succ i =>
      obtain ⟨u, q1, q2⟩ := RDs.get (i := i) h2 (by simpa using e)
      exact ⟨u, by simpa using q1, q2⟩
theorem RDs.take {xs : List D} : ∀ {vs : List V} (n : Nat), RDs K C Zf H xs vs → RDs K C Zf H (xs.take n) (vs.take n) := by
  induction xs with
  | nil =>
    intro vs n h
    simp only [RDs] at h
    subst h
    simp [RDs.nil]
  | cons x xs ih =>
    intro vs n h
    simp only [RDs] at h
    obtain ⟨v, r, rfl, h1, h2⟩ := h
    cases n with
    | zero => simp [RDs.nil]
    | succ n =>
      simp only [List.take_succ_cons]
      exact .cons h1 (ih n h2)
theorem RDs.drop {xs : List D} : ∀ {vs : List V} (n : Nat), RDs K C Zf H xs vs → RDs K C Zf H (xs.drop n) (vs.drop n) := by
  induction xs with
  | nil =>
    intro vs n h
    simp only [RDs] at h
    subst h
    simp [RDs.nil]
  | cons x xs ih =>
    intro vs n h
    simp only [RDs] at h
    obtain ⟨v, r, rfl, h1, h2⟩ := h
    cases n with
    | zero => exact .cons h1 h2
    | succ n =>
      simp only [List.drop_succ_cons]
      exact ih n h2
theorem RDs.reverse {xs : List D} : ∀ {vs : List V}, RDs K C Zf H xs vs → RDs K C Zf H xs.reverse vs.reverse := by
  induction xs with
  | nil =>
    intro vs h
    simp only [RDs] at h
    subst h
    exact .nil
  | cons x xs ih =>
    intro vs h
    simp only [RDs] at h
    obtain ⟨v, r, rfl, h1, h2⟩ := h
    rw [List.reverse_cons, List.reverse_cons]
    exact (ih h2).append (.cons h1 .nil)
theorem RDs.set {xs : List D} : ∀ {vs : List V} (i : Nat) {x : D} {v : V}, RDs K C Zf H xs vs → RD K C Zf H x v → RDs K C Zf H (xs.set i x) (vs.set i v) := by
  induction xs with
  | nil =>
    intro vs i x v h _
    simp only [RDs] at h
    subst h
    exact .nil
  | cons y xs ih =>
    intro vs i x v h hv
    simp only [RDs] at h
    obtain ⟨u, r, rfl, h1, h2⟩ := h
    cases i with
    | zero => exact .cons hv h2
    | succ i => exact .cons h1 (ih i h2 hv)
theorem free_zf (R : Rel K C P w) {p : Addr} (hp : w.H p = none) : ¬ w.Zf p := fun z => by
  obtain ⟨o, q⟩ := R.zin p z
  rw [hp] at q
  cases q
theorem rd_tup (R : Rel K C P w) {p : Addr} (hp : w.H p = none) {ds vs} (h : RDs K C w.Zf w.H ds vs) : RD K C w.Zf (upd w.H p (.tup vs)) (.tup ds) (.ref p) := by
  simp only [RD]
  exact ⟨p, vs, rfl, .inl ⟨.inl upd_same, free_zf R hp⟩, RDs.mono (step_new R hp (.tup vs)).ex _ _ h⟩
theorem rd_lst (R : Rel K C P w) {p : Addr} (hp : w.H p = none) {ds vs} (h : RDs K C w.Zf w.H ds vs) : RD K C w.Zf (upd w.H p (.lst vs)) (.lst ds) (.ref p) := by
  simp only [RD]
  exact ⟨p, vs, rfl, ⟨upd_same, free_zf R hp⟩, RDs.mono (step_new R hp (.lst vs)).ex _ _ h⟩
theorem rd_int {i : Int} : RD K C Zf H (.int i) (.int i) := by simp only [RD]
theorem rd_bl {i : Bool} : RD K C Zf H (.bl i) (.bl i) := by simp only [RD]
theorem rd_str {s : List Nat} (h : s.length ≤ 16777216) : RD K C Zf H (.str s) (vstr s) := by
  simp only [RD]
  exact ⟨trivial, h⟩
theorem rd_non : RD K C Zf H .non .non := by simp only [RD]
theorem rv_int {i : Int} {v : V} (h : RV K C w (.int i) v) : v = .int i := by simpa only [RV, RD] using h
theorem rv_bl {i : Bool} {v : V} (h : RV K C w (.bl i) v) : v = .bl i := by simpa only [RV, RD] using h
theorem rv_non {v : V} (h : RV K C w .non v) : v = .non := by simpa only [RV, RD] using h
theorem rv_str {s : List Nat} {v : V} (h : RV K C w (.str s) v) : v = vstr s ∧ s.length ≤ 16777216 := by simpa only [RV, RD] using h
theorem rv_tup {xs : List D} {v : V} (h : RV K C w (.tup xs) v) : ∃ a vs, v = .ref a ∧ ZT K w.Zf w.H a vs ∧ RDs K C w.Zf w.H xs vs := by simpa only [RV, RD] using h
theorem rv_lst {xs : List D} {v : V} (h : RV K C w (.lst xs) v) : ∃ a vs, v = .ref a ∧ w.H a = some (.lst vs) ∧ RDs K C w.Zf w.H xs vs := h
end
section
variable {C : Cg} {X : Cx} {P : Pm} {w : Wd}
/-- the end of an operation that leaves the heap -/
theorem op_end (R : Rel X.K C P w) {z : D} {r : V} {Q : VK} (h : RD X.K C w.Zf w.H z r) (q : ∀ w' r, w'.s = w.s → Step X.K C P w w' → RD X.K C w'.Zf w'.H z r → Q r w'.H) : Q r w.H := q w r rfl (Step.refl R) h
theorem op_tup (R : Rel X.K C P w) {ds vs} {Q : VK} (h : RDs X.K C w.Zf w.H ds vs) (q : ∀ w' r, w'.s = w.s → Step X.K C P w w' → RD X.K C w'.Zf w'.H (.tup ds) r → Q r w'.H) : ∀ p, w.H p = none → Q (.ref p) (upd w.H p (.tup vs)) := fun p hp =>
  q { w with H := upd w.H p (.tup vs) } (.ref p) rfl (step_new R hp _) (rd_tup R hp h)
theorem op_lst (R : Rel X.K C P w) {ds vs} {Q : VK} (h : RDs X.K C w.Zf w.H ds vs) (q : ∀ w' r, w'.s = w.s → Step X.K C P w w' → RD X.K C w'.Zf w'.H (.lst ds) r → Q r w'.H) : ∀ p, w.H p = none → Q (.ref p) (upd w.H p (.lst vs)) := fun p hp =>
  q { w with H := upd w.H p (.lst vs) } (.ref p) rfl (step_new R hp _) (rd_lst R hp h)
theorem ok_add : OpOk C X (binaryOp .Add) oAdd := by
  intro P w x y z v u Q R hx hy e q
  unfold oAdd at e
  split at e
  · cases e
    obtain rfl := rv_int hx
    obtain rfl := rv_int hy
    exact rmax_of op_add ⟨_, _, rfl, rfl, op_end R rd_int q⟩
  · rename_i a b
    split at e
    · rename_i hl
      cases e
      obtain ⟨rfl, la⟩ := rv_str hx
      obtain ⟨rfl, lb⟩ := rv_str hy
      refine rmax_of op_add_str ⟨_, _, rfl, rfl, ?_, ?_⟩
      · rw [str_len, str_len, ← lim_eq]
        exact hl
      · rw [str_app]
        exact op_end R (rd_str (by rw [List.length_append]; exact hl)) q
    · cases e
  · rename_i a b
    split at e
    · rename_i hl
      cases e
      obtain ⟨p, vs, rfl, h1, h2⟩ := rv_tup hx
      obtain ⟨p', us, rfl, h3, h4⟩ := rv_tup hy
      have e1 := h2.length
      have e2 := h4.length
      refine rmax_of op_catA ⟨p, p', vs, us, rfl, rfl, h1.sq, h3.sq, by rw [← e1, ← e2, ← lim_eq]; exact hl, fun ev => ?_, fun _ eu => ?_, fun _ _ => op_tup R (h2.append h4) q⟩
      · subst ev
        obtain rfl : a = [] := List.length_eq_zero_iff.mp e1
        refine op_end R ?_ q
        simp only [RD, List.nil_append]
        exact ⟨p', us, rfl, h3, h4⟩
      · subst eu
        obtain rfl : b = [] := List.length_eq_zero_iff.mp e2
        refine op_end R ?_ q
        simp only [RD, List.append_nil]
        exact ⟨p, vs, rfl, h1, h2⟩
    · cases e
  · rename_i a b
    split at e
    · rename_i hl
      cases e
      obtain ⟨p, vs, rfl, h1, h2⟩ := rv_lst hx
      obtain ⟨p', us, rfl, h3, h4⟩ := rv_lst hy
      exact rmax_of op_cat ⟨p, p', vs, us, rfl, rfl, h1, h3, by rw [← h2.length, ← h4.length, ← lim_eq]; exact hl, op_lst R (h2.append h4) q⟩
    · cases e
  · cases e
theorem ok_sub : OpOk C X (binaryOp .Sub) oSub := by
  intro P w x y z v u Q R hx hy e q
  unfold oSub at e
  split at e
  · cases e
    obtain rfl := rv_int hx
    obtain rfl := rv_int hy
    exact rmax_of op_sub ⟨_, _, rfl, rfl, op_end R rd_int q⟩
  · cases e
theorem ok_div : OpOk C X (binaryOp .FloorDiv) oDiv := by
  intro P w x y z v u Q R hx hy e q
  unfold oDiv at e
  split at e
  · split at e
    · rename_i h
      simp only [Bool.and_eq_true, decide_eq_true_eq] at h
      cases e
      obtain rfl := rv_int hx
      obtain rfl := rv_int hy
      exact rmax_of op_fdivW ⟨_, _, rfl, rfl, h, op_end R rd_int q⟩
    · cases e
  · cases e
theorem ok_mod : OpOk C X (binaryOp .Mod) oMod := by
  intro P w x y z v u Q R hx hy e q
  unfold oMod at e
  split at e
  · split at e
    · rename_i h
      cases e
      obtain rfl := rv_int hx
      obtain rfl := rv_int hy
      exact rmax_of op_mod ⟨_, _, rfl, rfl, h, op_end R rd_int q⟩
    · cases e
  · cases e
theorem op_powW : OpR X (binaryOp .Pow) (rI (fun i j => 0 ≤ j ∧ (i.natAbs.log2 + 1) * j.toNat ≤ 100000000) fun i j => .int (i ^ j.toNat)) := opI fun i j _ _ _ _ _ hc q => by
  refine pow_int hc.1 ?_ q
  have h1 : (Builtin.Int.intBits i : Int) ≤ ((i.natAbs.log2 + 1 : Nat) : Int) := by
    unfold Builtin.Int.intBits
    split <;> omega
  have h2 : j = (j.toNat : Int) := by omega
  have h3 : (Builtin.Int.intBits i : Int) * j ≤ ((i.natAbs.log2 + 1 : Nat) : Int) * j := Int.mul_le_mul_of_nonneg_right h1 hc.1
  have h4 : ((i.natAbs.log2 + 1 : Nat) : Int) * j = (((i.natAbs.log2 + 1) * j.toNat : Nat) : Int) := by
    rw [Int.natCast_mul]
    congr 1
  rw [h4] at h3
  have := hc.2
  omega
theorem ok_pow : OpOk C X (binaryOp .Pow) oPow := by
  intro P w x y z v u Q R hx hy e q
  unfold oPow at e
  split at e
  · split at e
    · rename_i h
      simp only [Bool.and_eq_true, decide_eq_true_eq] at h
      cases e
      obtain rfl := rv_int hx
      obtain rfl := rv_int hy
      exact rmax_of op_powW ⟨_, _, rfl, rfl, h, op_end R rd_int q⟩
    · cases e
  · cases e
end
end Z
end

section
set_option Elab.async false
set_option linter.all false
set_option maxRecDepth 100000
set_option maxHeartbeats 4000000
namespace Z
open PySem PySem.Spec PyProof.Rows L2
theorem tuple_mul_same (l : Addr) (items : Array Value) (n : Nat) (dd : Option Addr) (sl : Array (Option Value)) (x : Int) (u : Tok) (c0 : (decide (x < -(2 ^ 63)) || decide (x ≥ 2 ^ 63)) = false) (c1 : (items.isEmpty || x == 1) = true) :
    Meets (Builtin.«tuple.__mul__» ⟨[.ref l, .int x u], []⟩) (fun _ R s => s.heap.get? l = some { cls := .type "tuple", dict := dd, data := .seq items n, slots := sl } ∧
      R (.ok (.ret (Value.ref l))) s) :=
  .of_wp fun prog w A R s h => by
    obtain ⟨hp, g, d, tk, os⟩ := s
    obtain ⟨hl, h⟩ := h
    have f1 := AutoSeq1.idx_int
    wp_walk using wpAny_loadPart' hl
    repeat (first
      | (refine wpAny_ite_false (decide_eq_false (by rw [c0]; exact Bool.false_ne_true)) ?_; wp_walk using wpAny_loadPart' hl)
      | (refine wpAny_ite_true (decide_eq_true c1) ?_; wp_walk using wpAny_loadPart' hl))
    exact ⟨_, rfl, h⟩
theorem tuple_mul_none (l : Addr) (items : Array Value) (n : Nat) (dd : Option Addr) (sl : Array (Option Value)) (x : Int) (u : Tok) (c0 : (decide (x < -(2 ^ 63)) || decide (x ≥ 2 ^ 63)) = false) (c1 : (items.isEmpty || x == 1) = false) (c2 : (decide (x ≤ 0) || items.isEmpty) = true) :
    Meets (Builtin.«tuple.__mul__» ⟨[.ref l, .int x u], []⟩) (fun _ R s => s.heap.get? l = some { cls := .type "tuple", dict := dd, data := .seq items n, slots := sl } ∧
      R (.ok (.ret (Value.ref s.heap.objs.size))) { s with heap := s.heap.push { cls := Value.type "tuple", data := Data.seq #[] }, toks := s.toks }) :=
  .of_wp fun prog w A R s h => by
    obtain ⟨hp, g, d, tk, os⟩ := s
    obtain ⟨hl, h⟩ := h
    have f1 := AutoSeq1.idx_int
    wp_walk using wpAny_loadPart' hl
    repeat (first
      | (refine wpAny_ite_false (decide_eq_false (by rw [c0]; exact Bool.false_ne_true)) ?_; wp_walk using wpAny_loadPart' hl)
      | (refine wpAny_ite_false (decide_eq_false (by rw [c1]; exact Bool.false_ne_true)) ?_; wp_walk using wpAny_loadPart' hl)
      | (refine wpAny_ite_true (decide_eq_true c2) ?_; wp_walk using wpAny_loadPart' hl))
    exact ⟨_, rfl, h⟩

theorem rep_flat {α : Type} (n : Nat) (xs : List α) : rep n xs = (List.replicate n xs).flatten := by
  induction n with
  | zero => rfl
  | succ n ih => rw [List.replicate_succ, List.flatten_cons, rep, ih]
theorem rep_arr (n : Nat) (s : List Nat) (acc : Array Nat) : (List.replicate n s.toArray).foldl (· ++ ·) acc = acc ++ (rep n s).toArray := by
  induction n generalizing acc with
  | zero => simp [rep]
  | succ n ih =>
    rw [List.replicate_succ, List.foldl_cons, ih, rep]
    simp
theorem rep_len {α : Type} (n : Nat) (xs : List α) : (rep n xs).length = xs.length * n := by
  induction n with
  | zero => simp [rep]
  | succ n ih => rw [rep, List.length_append, ih, Nat.mul_succ, Nat.add_comm]
section
variable {C : Cg} {X : Cx} {P : Pm} {w : Wd}
/-- t * k -/
def rRepA (K : PySem.W.Frag) : R2 := fun x y H Q => ∃ l k xs, x = .ref l ∧ y = .int k ∧ SqT K H l xs ∧ 0 ≤ k ∧ k ≤ 1000 ∧ xs.length ≤ 1000 ∧ (xs = [] ∨ k = 1 → Q (.ref l) H) ∧
  (xs ≠ [] → k ≠ 1 → ∀ p, H p = none → Q (.ref p) (upd H p (.tup (List.replicate k.toNat xs).flatten)))
theorem op_repA : OpR X (binaryOp .Mult) (rRepA X.K) := by
  intro pins s σ H x y v u Q I rx ry h
  obtain ⟨l, k, xs, rfl, rfl, hT, h0, h1, hz, q1, q2⟩ := h
  by_cases hs : xs = [] ∨ k = 1
  · cases rx
    obtain ⟨t, rfl⟩ := ry
    obtain ⟨its, r, ⟨⟨cls, dd, data, sl⟩, ho, hc, n, hd⟩, hsz⟩ := I.tuple hT
    simp only at hc hd
    subst hc hd
    have c0 : (decide (k < -(2 ^ 63)) || decide (k ≥ 2 ^ 63)) = false := by
      rw [decide_eq_false (by omega), decide_eq_false (by omega)] <;> rfl
    have c1 : (its.toArray.isEmpty || k == 1) = true := by
      rcases hs with e | e
      · subst e
        cases r
        rfl
      · subst e
        simp
    refine wpAny_binaryOp_repeat_ref (T := "tuple") (U := "int") (by decide) ⟨_, ho, rfl⟩ (fun s' => typeIs_int s' k t) noFill_tuple_mul F.fills_int_mul F.slot_int_rmul repeat_tuple F.slot_int_index.lookup
      (call_meets F.slot_int_rmul (typeIs_int s k t) F.entry_int_rmul (F.args_int_rmul_2 _ _) (int_rmul_tuple k t l its.toArray n dd sl)
        ⟨ho, rfl, ⟨_, ho, rfl⟩, call_meets F.slot_tuple_mul ⟨_, ho, rfl⟩ F.entry_tuple_mul (F.args_tuple_mul_2 _ _) (tuple_mul_same l its.toArray n dd sl k t c0 c1) ⟨ho, ?_⟩⟩)
    exact ⟨.ref l, H, I, rfl, q1 hs⟩
  · have hne : xs ≠ [] := fun e => hs (.inl e)
    have hk1 : k ≠ 1 := fun e => hs (.inr e)
    by_cases hk : 2 ≤ k
    · exact op_repT pins s σ H _ _ v u Q I rx ry ⟨l, k, xs, rfl, rfl, hT, hne, hk, h1, hz, q2 hne hk1⟩
    · obtain rfl : k = 0 := by omega
      cases rx
      obtain ⟨t, rfl⟩ := ry
      obtain ⟨its, r, ⟨⟨cls, dd, data, sl⟩, ho, hc, n, hd⟩, hsz⟩ := I.tuple hT
      simp only at hc hd
      subst hc hd
      have hi : its.toArray.isEmpty = false := by
        cases r with
        | nil => exact absurd rfl hne
        | cons _ _ => rfl
      refine wpAny_binaryOp_repeat_ref (T := "tuple") (U := "int") (by decide) ⟨_, ho, rfl⟩ (fun s' => typeIs_int s' 0 t) noFill_tuple_mul F.fills_int_mul F.slot_int_rmul repeat_tuple F.slot_int_index.lookup
        (call_meets F.slot_int_rmul (typeIs_int s 0 t) F.entry_int_rmul (F.args_int_rmul_2 _ _) (int_rmul_tuple 0 t l its.toArray n dd sl)
          ⟨ho, rfl, ⟨_, ho, rfl⟩, call_meets F.slot_tuple_mul ⟨_, ho, rfl⟩ F.entry_tuple_mul (F.args_tuple_mul_2 _ _) (tuple_mul_none l its.toArray n dd sl 0 t (by decide) (by rw [hi]; rfl) (by rw [hi]; rfl)) ⟨ho, ?_⟩⟩)
      refine ⟨.ref s.heap.objs.size, _, I.laid (t' := s.toks) (o := .tup []) (fun b ob q => Heap.get?_push_of_some _ q) (Nat.le_refl _) ?_, rfl, q2 hne hk1 _ (I.hok.fresh (Nat.le_refl _))⟩
      exact ⟨Nat.zero_le _, [], .nil, IsTup.new _ _⟩
def rRepS : R2 := fun x y H Q => ∃ s k, x = .str ⟨(s : List Nat).toArray⟩ ∧ y = .int k ∧ 0 ≤ k ∧ s.length * k.toNat ≤ 16777216 ∧ s.length ≤ 16777216 ∧ k ≤ 16777216 ∧ Q (.str ⟨(rep k.toNat s).toArray⟩) H
theorem op_repS : OpR X (binaryOp .Mult) rRepS := by
  intro pins s σ H x y v u Q I rx ry h
  obtain ⟨z, k, rfl, rfl, h0, h1, h2, h3, q⟩ := h
  obtain ⟨t, rfl⟩ := rx
  obtain ⟨t', rfl⟩ := ry
  have fin : ∀ (s' : Shared) (z' : List Nat) (tt : Tok), z' = rep k.toNat z → Inv X pins σ H s' → EP X pins σ Q (.str ⟨z'.toArray⟩ tt) s' := fun s' z' tt e I' => by
    subst e
    exact ⟨.str ⟨(rep k.toNat z).toArray⟩, H, I', ⟨tt, rfl⟩, q⟩
  refine PySem.P.mul_str ?_ (fun hk hn => ?_) (fun hk hn => ?_) ?_
  · rw [decide_eq_false (by omega), decide_eq_false (by omega)] <;> rfl
  · rw [str_len]
    have a1 : (z.length : Int) * k ≤ 16777216 := by
      have e : (z.length : Int) * k = ((z.length * k.toNat : Nat) : Int) := by
        rw [Int.natCast_mul]
        congr 1
        omega
      rw [e]
      omega
    have a2 : (z.length : Int) ≤ (2 ^ 63 - 1) / k := (Int.le_ediv_iff_mul_le (by omega)).mpr (by omega)
    omega
  · unfold Builtin.Str.tooLong
    rw [str_len, sizeLine_eq]
    exact decide_eq_false (by omega)
  · by_cases hk : k < 1
    · rw [if_pos hk]
      obtain rfl : k = 0 := by omega
      exact ⟨by decide, fin _ [] _ rfl (I.tok _)⟩
    · rw [if_neg hk]
      by_cases hn : (k == 1 || (⟨z.toArray⟩ : Str).length == 0) = true
      · rw [if_pos hn]
        refine fin _ z _ ?_ I
        rw [str_len] at hn
        simp only [Bool.or_eq_true, beq_iff_eq] at hn
        rcases hn with e | e
        · subst e
          show z = z ++ []
          simp
        · obtain rfl := List.length_eq_zero_iff.mp e
          have : ∀ n, rep n ([] : List Nat) = [] := fun n => by
            induction n with
            | zero => rfl
            | succ n ih => rw [rep, ih] <;> rfl
          exact (this _).symm
      · rw [if_neg hn]
        have e : (List.replicate k.toNat (⟨z.toArray⟩ : Str).cps).foldl (· ++ ·) #[] = (rep k.toNat z).toArray := by
          rw [rep_arr]
          simp
        rw [e]
        exact ⟨by show (rep k.toNat z).toArray.size ≤ sizeLine; rw [List.size_toArray, rep_len, sizeLine_eq]; exact h1, fin _ _ _ rfl (I.tok _)⟩
theorem ok_mul : OpOk C X (binaryOp .Mult) oMul := by
  intro P w x y z v u Q R hx hy e q
  unfold oMul at e
  split at e
  · rename_i i j
    split at e
    · rename_i h
      cases e
      obtain rfl := rv_int hx
      obtain rfl := rv_int hy
      simp only [Bool.or_eq_true, decide_eq_true_eq] at h
      rcases h with (h | h) | h
      · exact rmax_of op_mul ⟨_, _, rfl, rfl, .inl (by omega), op_end R rd_int q⟩
      · exact rmax_of op_mul ⟨_, _, rfl, rfl, .inr (by omega), op_end R rd_int q⟩
      · exact rmax_of op_mulW ⟨_, _, rfl, rfl, h, op_end R rd_int q⟩
    · cases e
  · rename_i a k
    split at e
    · rename_i h
      cases e
      simp only [Bool.and_eq_true, decide_eq_true_eq] at h
      obtain ⟨p, vs, rfl, h1, h2⟩ := rv_lst hx
      obtain rfl := rv_int hy
      refine rmax_of op_rep ⟨p, k, vs, rfl, rfl, h1, by omega, by omega, by rw [← h2.length, ← lim_eq]; exact h.2, op_lst R (h2.rep _) q⟩
    · cases e
  · rename_i a k
    split at e
    · rename_i h
      cases e
      simp only [Bool.and_eq_true, decide_eq_true_eq] at h
      obtain ⟨p, vs, rfl, h1, h2⟩ := rv_tup hx
      obtain rfl := rv_int hy
      have hl := h2.length
      refine rmax_of op_repA ⟨p, k, vs, rfl, rfl, h1.sq, h.1.1, h.1.2, by omega, fun hs => ?_, fun _ _ => op_tup R (h2.rep _) q⟩
      have er : rep k.toNat a = a := by
        rcases hs with e | e
        · subst e
          obtain rfl := List.length_eq_zero_iff.mp hl
          have : ∀ n, rep n ([] : List D) = [] := fun n => by
            induction n with
            | zero => rfl
            | succ n ih => rw [rep, ih] <;> rfl
          exact this _
        · subst e
          show a ++ [] = a
          simp
      refine op_end R ?_ q
      simp only [RD]
      exact ⟨p, vs, rfl, h1, by rw [er]; exact h2⟩
    · cases e
  · rename_i a k
    split at e
    · rename_i h
      cases e
      simp only [Bool.and_eq_true, decide_eq_true_eq] at h
      obtain ⟨rfl, la⟩ := rv_str hx
      obtain rfl := rv_int hy
      have hL : LIM = 16777216 := rfl
      exact rmax_of op_repS ⟨a, k, rfl, rfl, by omega, by omega, la, by omega, op_end R (rd_str (by rw [rep_len]; omega)) q⟩
    · cases e
  · cases e
end
end Z
end

section
set_option Elab.async false
set_option linter.all false
set_option maxRecDepth 100000
set_option maxHeartbeats 4000000
/-! Comparisons. -/
namespace Z
open PySem PySem.Spec PyProof.Rows L2
mutual
/-- data as the model has it -/
def pd : D → PyData
  | .non => .none
  | .bl b => .bool b
  | .int i => .int i
  | .str s => .str ⟨s.toArray⟩
  | .tup xs => .tuple (pds xs)
  | .lst xs => .list (pds xs)
  | .lck _ => .none
  | .dic _ _ => .none
  | .obj _ _ => .none
def pds : List D → List PyData
  | [] => []
  | x :: r => pd x :: pds r
end
mutual
theorem eqv_pd : ∀ x y : D, lay x = true → lay y = true → PyData.eqv (pd x) (pd y) = eqv x y
  | .non, y, _, hy => by cases y <;> first | simp_all [pd, PyData.eqv, eqv, lay]
  | .bl b, y, _, hy => by cases y <;> first | simp_all [pd, PyData.eqv, eqv, lay]
  | .int i, y, _, hy => by cases y <;> first | simp_all [pd, PyData.eqv, eqv, lay]
  | .str s, y, _, hy => by
    cases y with
    | str t =>
      simp only [pd, PyData.eqv, eqv]
      exact str_beq s t
    | _ => first | simp_all [pd, PyData.eqv, eqv, lay]
  | .tup xs, y, hx, hy => by
    cases y with
    | tup ys =>
      simp only [pd, PyData.eqv, eqv, lay] at hx hy ⊢
      exact eqvs_pd xs ys hx hy
    | _ => first | simp_all [pd, PyData.eqv, eqv, lay]
  | .lst xs, y, hx, hy => by
    cases y with
    | lst ys =>
      simp only [pd, PyData.eqv, eqv, lay] at hx hy ⊢
      exact eqvs_pd xs ys hx hy
    | _ => first | simp_all [pd, PyData.eqv, eqv, lay]
  | .lck _, _, h, _ => by simp [lay] at h
  | .dic _ _, _, h, _ => by simp [lay] at h
  | .obj _ _, _, h, _ => by simp [lay] at h
theorem eqvs_pd : ∀ xs ys : List D, lays xs = true → lays ys = true → PyData.eqvAll (pds xs) (pds ys) = eqvs xs ys
  | [], [], _, _ => by simp [pds, PyData.eqvAll, eqvs]
  | [], _ :: _, _, _ => by simp [pds, PyData.eqvAll, eqvs]
  | _ :: _, [], _, _ => by simp [pds, PyData.eqvAll, eqvs]
  | x :: xs, y :: ys, hx, hy => by
    simp only [lays, Bool.and_eq_true] at hx hy
    simp only [pds, PyData.eqvAll, eqvs]
    rw [eqv_pd x y hx.1 hy.1, eqvs_pd xs ys hx.2 hy.2]
end
mutual
theorem lay_pd : ∀ x : D, lay x = true → (pd x).canLay0 = true
  | .non, _ => by simp [pd, PyData.canLay0]
  | .bl b, _ => by simp [pd, PyData.canLay0]
  | .int b, _ => by simp [pd, PyData.canLay0]
  | .str s, h => by
    simp only [lay] at h
    simp only [pd, PyData.canLay0, PyData.strOk]
    simpa using h
  | .tup xs, h => by
    simp only [lay] at h
    simp only [pd, PyData.canLay0]
    exact lays_pd xs h
  | .lst xs, h => by
    simp only [lay] at h
    simp only [pd, PyData.canLay0]
    exact lays_pd xs h
  | .lck _, h => by simp [lay] at h
  | .dic _ _, h => by simp [lay] at h
  | .obj _ _, h => by simp [lay] at h
theorem lays_pd : ∀ xs : List D, lays xs = true → PyData.canLayAll0 (pds xs) = true
  | [], _ => by simp [pds, PyData.canLayAll0]
  | x :: xs, h => by
    simp only [lays, Bool.and_eq_true] at h
    simp only [pds, PyData.canLayAll0, lay_pd x h.1, lays_pd xs h.2, Bool.and_self]
end
mutual
theorem depth_pd : ∀ x : D, (pd x).depth = depth x
  | .non => by simp [pd, PyData.depth, depth]
  | .bl b => by simp [pd, PyData.depth, depth]
  | .int b => by simp [pd, PyData.depth, depth]
  | .str s => by simp [pd, PyData.depth, depth]
  | .tup xs => by
    simp only [pd, PyData.depth, depth]
    rw [depths_pd xs]
  | .lst xs => by
    simp only [pd, PyData.depth, depth]
    rw [depths_pd xs]
  | .lck _ => by simp [pd, PyData.depth, depth]
  | .dic _ _ => by simp [pd, PyData.depth, depth]
  | .obj _ _ => by simp [pd, PyData.depth, depth]
theorem depths_pd : ∀ xs : List D, PyData.depthAll (pds xs) = depths xs
  | [] => by simp [pds, PyData.depthAll, depths]
  | x :: xs => by
    simp only [pds, PyData.depthAll, depths]
    rw [depth_pd x, depths_pd xs]
end
theorem shp_pd {x : D} (h : shp x = true) : SeqAt.shaped (pd x) = true := by
  unfold shp at h
  simp only [Bool.and_eq_true, decide_eq_true_eq] at h
  unfold SeqAt.shaped
  rw [lay_pd x h.1, depth_pd]
  simpa using h.2
theorem shp_lay {x : D} (h : shp x = true) : lay x = true := by
  unfold shp at h
  simp only [Bool.and_eq_true] at h
  exact h.1
section
variable {K : PySem.W.Frag} {C : Cg} {w : Wd} {Zf : Addr → Prop} {H : Hp}
mutual
theorem rd_dp : ∀ (x : D) (v : V), lay x = true → RD K C Zf H x v → Dp K H v (pd x)
  | .non, v, _, h => by
    simp only [RD] at h
    subst h
    simp only [pd]
    exact .non
  | .bl b, v, _, h => by
    simp only [RD] at h
    subst h
    simp only [pd]
    exact .bl b
  | .int b, v, _, h => by
    simp only [RD] at h
    subst h
    simp only [pd]
    exact .int b
  | .str s, v, _, h => by
    simp only [RD] at h
    obtain ⟨rfl, _⟩ := h
    simp only [pd]
    exact .str _
  | .tup xs, v, l, h => by
    simp only [RD] at h
    simp only [lay] at l
    obtain ⟨a, vs, rfl, h1, h2⟩ := h
    simp only [pd]
    exact .tup h1.sq (rds_dp xs vs l h2)
  | .lst xs, v, l, h => by
    simp only [RD] at h
    simp only [lay] at l
    obtain ⟨a, vs, rfl, h1, h2⟩ := h
    simp only [pd]
    exact .lst h1.sq (rds_dp xs vs l h2)
  | .lck _, _, h, _ => by simp [lay] at h
  | .dic _ _, _, h, _ => by simp [lay] at h
  | .obj _ _, _, h, _ => by simp [lay] at h
theorem rds_dp : ∀ (xs : List D) (vs : List V), lays xs = true → RDs K C Zf H xs vs → DpAll K H vs (pds xs)
  | [], vs, _, h => by
    simp only [RDs] at h
    subst h
    simp only [pds]
    exact .nil
  | x :: xs, vs, l, h => by
    simp only [RDs] at h
    simp only [lays, Bool.and_eq_true] at l
    obtain ⟨v, r, rfl, h1, h2⟩ := h
    simp only [pds]
    exact .cons (rd_dp x v l.1 h1) (rds_dp xs r l.2 h2)
end
theorem rv_dp {x : D} {v : V} (l : lay x = true) (h : RV K C w x v) : Dp K w.H v (pd x) := by
  cases x with
  | lst xs =>
    obtain ⟨a, vs, rfl, h1, h2⟩ := rv_lst h
    simp only [pd]
    simp only [lay] at l
    exact .lst (SqL.of h1) (rds_dp xs vs l h2)
  | dic _ _ => simp [lay] at l
  | lck _ => simp [lay] at l
  | obj _ _ => simp [lay] at l
  | non => exact rd_dp _ _ l (show RD K C w.Zf w.H _ _ from h)
  | bl _ => exact rd_dp _ _ l (show RD K C w.Zf w.H _ _ from h)
  | int _ => exact rd_dp _ _ l (show RD K C w.Zf w.H _ _ from h)
  | str _ => exact rd_dp _ _ l (show RD K C w.Zf w.H _ _ from h)
  | tup _ => exact rd_dp _ _ l (show RD K C w.Zf w.H _ _ from h)
/-! flat values -/
theorem flat_v {x : D} {v : V} (f : flat x = true) (h : RV K C w x v) : flatV v = true := by
  cases x with
  | non => rw [rv_non h] <;> rfl
  | bl _ => rw [rv_bl h] <;> rfl
  | int _ => rw [rv_int h] <;> rfl
  | str _ => rw [(rv_str h).1] <;> rfl
  | _ => simp [flat] at f
theorem flats_v : ∀ {xs : List D} {vs : List V}, xs.all flat = true → RDs K C w.Zf w.H xs vs → vs.all flatV = true
  | [], vs, _, h => by
    simp only [RDs] at h
    rw [h] <;> rfl
  | x :: xs, vs, f, h => by
    simp only [RDs] at h
    obtain ⟨v, r, rfl, h1, h2⟩ := h
    simp only [List.all_cons, Bool.and_eq_true] at f ⊢
    exact ⟨flat_v f.1 (RD.rv h1), flats_v f.2 h2⟩
theorem eqV_eqv {x y : D} {v u : V} (fx : flat x = true) (fy : flat y = true) (hx : RV K C w x v) (hy : RV K C w y u) : eqV v u = eqv x y := by
  cases x with
  | non =>
    rw [rv_non hx]
    cases y with
    | non => rw [rv_non hy]; simp [eqV, eqv]
    | bl _ => rw [rv_bl hy]; simp [eqV, eqv]
    | int _ => rw [rv_int hy]; simp [eqV, eqv]
    | str _ => rw [(rv_str hy).1]; simp [eqV, eqv]
    | _ => simp [flat] at fy
  | bl _ =>
    rw [rv_bl hx]
    cases y with
    | non => rw [rv_non hy]; simp [eqV, eqv]
    | bl _ => rw [rv_bl hy]; simp [eqV, eqv]
    | int _ => rw [rv_int hy]; simp [eqV, eqv]
    | str _ => rw [(rv_str hy).1]; simp [eqV, eqv]
    | _ => simp [flat] at fy
  | int _ =>
    rw [rv_int hx]
    cases y with
    | non => rw [rv_non hy]; simp [eqV, eqv]
    | bl _ => rw [rv_bl hy]; simp [eqV, eqv]
    | int _ => rw [rv_int hy]; simp [eqV, eqv]
    | str _ => rw [(rv_str hy).1]; simp [eqV, eqv]
    | _ => simp [flat] at fy
  | str s =>
    rw [(rv_str hx).1]
    cases y with
    | non => rw [rv_non hy]; simp [eqV, eqv]
    | bl _ => rw [rv_bl hy]; simp [eqV, eqv]
    | int _ => rw [rv_int hy]; simp [eqV, eqv]
    | str t =>
      rw [(rv_str hy).1]
      simp only [eqV, eqv]
      exact str_beq s t
    | _ => simp [flat] at fy
  | _ => simp [flat] at fx
theorem inV_memB {x : D} {v : V} (fx : flat x = true) (hx : RV K C w x v) : ∀ {ys : List D} {us : List V}, ys.all flat = true → RDs K C w.Zf w.H ys us → inV v us = memB x ys
  | [], us, _, h => by
    simp only [RDs] at h
    rw [h] <;> rfl
  | y :: ys, us, f, h => by
    simp only [RDs] at h
    obtain ⟨u, r, rfl, h1, h2⟩ := h
    simp only [List.all_cons, Bool.and_eq_true] at f
    unfold inV
    rw [List.any_cons, memB, eqV_eqv f.1 fx (RD.rv h1) hx]
    exact congrArg _ (inV_memB fx hx f.2 h2)
theorem any_memB {x : D} (lx : lay x = true) : ∀ {ys : List D}, lays ys = true → ((pds ys).any fun z => PyData.eqv z (pd x)) = memB x ys
  | [], _ => by simp [pds, memB]
  | y :: ys, l => by
    simp only [lays, Bool.and_eq_true] at l
    simp only [pds, List.any_cons, memB]
    rw [eqv_pd y x l.1 lx, any_memB lx l.2]
theorem intsOf_v : ∀ {xs : List D} {vs : List V} {ns : List Int}, intsOf xs = some ns → RDs K C Zf H xs vs → vs = ns.map V.int
  | [], vs, ns, e, h => by
    simp only [RDs] at h
    cases e
    rw [h] <;> rfl
  | x :: xs, vs, ns, e, h => by
    simp only [RDs] at h
    obtain ⟨v, r, rfl, h1, h2⟩ := h
    cases x with
    | int i =>
      unfold intsOf at e
      cases q : intsOf xs with
      | none => rw [q] at e; cases e
      | some ms =>
        rw [q] at e
        cases e
        simp only [RD] at h1
        rw [h1, intsOf_v q h2] <;> rfl
    | _ => cases e
end
theorem lexLt_eq : ∀ ns ms : List Int, HT.lexLt ns ms = lexLt ns ms
  | [], [] => rfl
  | [], _ :: _ => rfl
  | _ :: _, [] => rfl
  | a :: as, b :: bs => by
    have ih := lexLt_eq as bs
    unfold HT.lexLt lexLt
    by_cases h : a = b
    · subst h
      simp [ih]
    · simp [h, ih]
theorem lexLe_eq : ∀ ns ms : List Int, lexLeI ns ms = lexLe ns ms
  | [], [] => rfl
  | [], _ :: _ => rfl
  | _ :: _, [] => rfl
  | a :: as, b :: bs => by
    have ih := lexLe_eq as bs
    unfold lexLeI lexLe
    by_cases h : a = b
    · subst h
      simp [ih]
    · simp [h, ih]
theorem strLt_eq : ∀ a b : List Nat, decide (a < b) = strLt a b
  | [], [] => rfl
  | [], _ :: _ => rfl
  | _ :: _, [] => rfl
  | a :: as, b :: bs => by
    have ih := strLt_eq as bs
    unfold strLt
    by_cases h : a = b
    · subst h
      rw [if_pos rfl, ← ih]
      simp [List.cons_lt_cons_iff]
    · rw [if_neg h]
      simp [List.cons_lt_cons_iff, h]
end Z
end

section
set_option Elab.async false
set_option linter.all false
set_option maxRecDepth 100000
set_option maxHeartbeats 4000000
/-! Comparisons, in. -/
namespace Z
open PySem PySem.Spec PyProof.Rows L2
theorem keyOf_inj {a b : Kd} : keyOf a = keyOf b ↔ a = b := by
  constructor
  · intro h
    cases a with
    | i a =>
      cases b with
      | i b => rw [Sum.inl.inj h]
      | s b => cases h
    | s a =>
      cases b with
      | i b => cases h
      | s b => rw [str_inj (Sum.inr.inj h)]
  · intro h
    rw [h]
section
variable {K : PySem.W.Frag} {C : Cg} {w : Wd} {Zf : Addr → Prop} {H : Hp}
theorem dget_v {k : Kd} : ∀ {ks : List Kd} {xs : List D} {vs : List V}, ks.length = vs.length → RDs K C Zf H xs vs →
    match dget ks xs k with
    | some x => ∃ v, valV ((ks.map keyOf).zip vs) (keyOf k) = some v ∧ RD K C Zf H x v
    | none => valV ((ks.map keyOf).zip vs) (keyOf k) = none
  | [], xs, vs, hl, h => by
    obtain rfl := List.length_eq_zero_iff.mp hl.symm
    simp only [RDs.length h, dget]
    cases xs <;> rfl
  | j :: ks, xs, vs, hl, h => by
    cases xs with
    | nil =>
      simp only [RDs] at h
      subst h
      cases hl
    | cons x xs =>
      simp only [RDs] at h
      obtain ⟨v, r, rfl, h1, h2⟩ := h
      by_cases e : j = k
      · subst e
        rw [dget, if_pos rfl]
        exact ⟨v, by rw [List.map_cons, List.zip_cons_cons, valV_pos rfl], h1⟩
      · rw [dget, if_neg e, List.map_cons, List.zip_cons_cons, valV_neg fun q => e (keyOf_inj.mp q)]
        exact dget_v (by simpa using hl) h2
theorem any_v {k : Kd} : ∀ {ks : List Kd} {vs : List V}, ks.length = vs.length → (valV ((ks.map keyOf).zip vs) (keyOf k)).isSome = ks.any fun j => decide (j = k)
  | [], vs, _ => by simp [valV]
  | j :: ks, vs, hl => by
    cases vs with
    | nil => cases hl
    | cons v vs =>
      by_cases e : j = k
      · subst e
        rw [List.map_cons, List.zip_cons_cons, valV_pos rfl, List.any_cons]
        simp
      · rw [List.map_cons, List.zip_cons_cons, valV_neg fun q => e (keyOf_inj.mp q), any_v (by simpa using hl), List.any_cons, decide_eq_false e, Bool.false_or]
theorem kd_v {x : D} {k : Kd} {v : V} (e : kdOf x = some k) (h : RV K C w x v) : v = kV (keyOf k) := by
  cases x with
  | int i =>
    cases e
    exact rv_int h
  | str s =>
    cases e
    exact (rv_str h).1
  | _ => cases e
end
theorem lexAt_at (ns ms : List Int) : ∀ k i : Nat, i + k = min ns.length ms.length →
    Ob.lexAt (fun j => decide (ns.getD j 0 = ms.getD j 0)) (fun j => decide (ns.getD j 0 ≤ ms.getD j 0)) (decide (ns.length ≤ ms.length)) i k = lexLe (ns.drop i) (ms.drop i)
  | 0, i, h => by
    rw [Ob.lexAt_zero]
    by_cases hl : ns.length ≤ ms.length
    · have e : ns.drop i = [] := List.drop_eq_nil_iff.mpr (by omega)
      rw [e, decide_eq_true hl] <;> rfl
    · have e : ms.drop i = [] := List.drop_eq_nil_iff.mpr (by omega)
      rw [e, decide_eq_false hl]
      cases q : ns.drop i with
      | nil =>
        have := List.drop_eq_nil_iff.mp q
        omega
      | cons a as => rfl
  | k + 1, i, h => by
    have h1 : i < ns.length := by omega
    have h2 : i < ms.length := by omega
    have e1 : ns.getD i 0 = ns[i] := by simp [List.getD, h1]
    have e2 : ms.getD i 0 = ms[i] := by simp [List.getD, h2]
    rw [Ob.lexAt_succ, List.drop_eq_getElem_cons h1, List.drop_eq_getElem_cons h2, lexLe, e1, e2, lexAt_at ns ms k (i + 1) (by omega)]
    by_cases q : ns[i] = ms[i]
    · rw [if_pos (decide_eq_true q), if_pos q]
    · rw [if_neg (by simpa using q), if_neg q]
theorem lexAt_eq (ns ms : List Int) : Ob.lexAt (fun j => decide (ns.getD j 0 = ms.getD j 0)) (fun j => decide (ns.getD j 0 ≤ ms.getD j 0)) (decide (ns.length ≤ ms.length)) 0 (min ns.length ms.length) = lexLe ns ms :=
  lexAt_at ns ms _ 0 (Nat.zero_add _)
section
variable {C : Cg} {X : Cx} {P : Pm} {w : Wd}
theorem hu64 {k : Nat} {A : Around} (hr : Room k A) : A.units + 64 < cLine := hr.units
theorem ok_eq {k : Nat} (hr : Room k X.A) : OpOk C X (compareOp .Eq) oEq := by
  intro P w x y z v u Q R hx hy e q
  unfold oEq at e
  split at e
  · rename_i h
    cases e
    simp only [Bool.and_eq_true] at h
    refine rmax_of (op_eqD (hu64 hr)) ⟨pd x, pd y, rv_dp (shp_lay h.1) hx, rv_dp (shp_lay h.2) hy, shp_pd h.1, shp_pd h.2, ?_⟩
    rw [eqv_pd x y (shp_lay h.1) (shp_lay h.2)]
    exact op_end R rd_bl q
  · cases e
theorem ok_ne {k : Nat} (hr : Room k X.A) : OpOk C X (compareOp .NotEq) oNe := by
  intro P w x y z v u Q R hx hy e q
  unfold oNe at e
  split at e
  · rename_i h
    cases e
    simp only [Bool.and_eq_true] at h
    refine rmax_of (op_neD (hu64 hr)) ⟨pd x, pd y, rv_dp (shp_lay h.1) hx, rv_dp (shp_lay h.2) hy, shp_pd h.1, shp_pd h.2, ?_⟩
    rw [eqv_pd x y (shp_lay h.1) (shp_lay h.2)]
    exact op_end R rd_bl q
  · cases e
theorem ok_lt {k : Nat} (hr : Room k X.A) : OpOk C X (compareOp .Lt) oLt := by
  intro P w x y z v u Q R hx hy e q
  unfold oLt at e
  split at e
  · cases e
    obtain rfl := rv_int hx
    obtain rfl := rv_int hy
    exact rmax_of op_lt ⟨_, _, rfl, rfl, op_end R rd_bl q⟩
  · rename_i a b
    cases e
    obtain ⟨rfl, _⟩ := rv_str hx
    obtain ⟨rfl, _⟩ := rv_str hy
    refine rmax_of op_lt_str ⟨_, _, rfl, rfl, ?_⟩
    rw [str_cps, str_cps, strLt_eq]
    exact op_end R rd_bl q
  · rename_i a b
    split at e
    · rename_i ns ms e1 e2
      cases e
      obtain ⟨p, vs, rfl, h1, h2⟩ := rv_tup hx
      obtain ⟨p', us, rfl, h3, h4⟩ := rv_tup hy
      obtain rfl := intsOf_v e1 h2
      obtain rfl := intsOf_v e2 h4
      refine rmax_of (op_ltT hr.units0) ⟨p, p', ns, ms, rfl, rfl, h1.sq, h3.sq, ?_⟩
      rw [lexLt_eq]
      exact op_end R rd_bl q
    · cases e
  · cases e
theorem ok_le {k : Nat} (hr : Room k X.A) : OpOk C X (compareOp .LtE) oLe := by
  intro P w x y z v u Q R hx hy e q
  unfold oLe at e
  split at e
  · cases e
    obtain rfl := rv_int hx
    obtain rfl := rv_int hy
    exact rmax_of op_le ⟨_, _, rfl, rfl, op_end R rd_bl q⟩
  · rename_i a b
    cases e
    obtain ⟨rfl, _⟩ := rv_str hx
    obtain ⟨rfl, _⟩ := rv_str hy
    refine rmax_of op_le_str ⟨_, _, rfl, rfl, ?_⟩
    rw [str_cps, str_cps, strLt_eq]
    exact op_end R rd_bl q
  · rename_i a b
    split at e
    · rename_i ns ms e1 e2
      cases e
      obtain ⟨p, vs, rfl, h1, h2⟩ := rv_tup hx
      obtain ⟨p', us, rfl, h3, h4⟩ := rv_tup hy
      obtain rfl := intsOf_v e1 h2
      obtain rfl := intsOf_v e2 h4
      refine rmax_of (op_leT hr.units0) ⟨p, p', ns, ms, rfl, rfl, h1.sq, h3.sq, ?_⟩
      rw [lexAt_eq]
      exact op_end R rd_bl q
    · cases e
  · cases e
theorem ok_gt : OpOk C X (compareOp .Gt) oGt := by
  intro P w x y z v u Q R hx hy e q
  unfold oGt at e
  split at e
  · cases e
    obtain rfl := rv_int hx
    obtain rfl := rv_int hy
    exact rmax_of op_gt ⟨_, _, rfl, rfl, op_end R rd_bl q⟩
  · cases e
theorem ok_ge : OpOk C X (compareOp .GtE) oGe := by
  intro P w x y z v u Q R hx hy e q
  unfold oGe at e
  split at e
  · cases e
    obtain rfl := rv_int hx
    obtain rfl := rv_int hy
    exact rmax_of op_ge ⟨_, _, rfl, rfl, op_end R rd_bl q⟩
  · cases e
def rDin : R2 := fun x y H Q => ∃ a o, y = .ref a ∧ DGet H a x o ∧ Q (.bl o.isSome) H
def rDnin : R2 := fun x y H Q => ∃ a o, y = .ref a ∧ DGet H a x o ∧ Q (.bl (!o.isSome)) H
theorem op_din (hu : X.A.units + 1 < cLine) : OpR X (compareOp .In) rDin := by
  intro pins s σ H x y v u Q I rx ry h
  obtain ⟨a, o, rfl, g, q⟩ := h
  cases ry
  exact d_in hu I g rx fun s3 I3 => ⟨.bl o.isSome, H, I3, rfl, q⟩
theorem op_dnin (hu : X.A.units + 1 < cLine) : OpR X (compareOp .NotIn) rDnin := by
  intro pins s σ H x y v u Q I rx ry h
  obtain ⟨a, o, rfl, g, q⟩ := h
  cases ry
  exact d_notIn hu I g rx fun s3 I3 => ⟨.bl (!o.isSome), H, I3, rfl, q⟩
def rDinN : R2 := fun x y H Q => ∃ a kvs, y = .ref a ∧ x = .non ∧ Rd H a (.dK kvs) ∧ Q (.bl false) H
def rDninN : R2 := fun x y H Q => ∃ a kvs, y = .ref a ∧ x = .non ∧ Rd H a (.dK kvs) ∧ Q (.bl true) H
theorem op_dinN : OpR X (compareOp .In) rDinN := by
  intro pins s σ H x y v u Q I rx ry h
  obtain ⟨a, o, rfl, rfl, g, q⟩ := h
  cases ry
  cases rx
  exact d_inNone I g fun s3 I3 => ⟨.bl false, H, I3, rfl, q⟩
theorem op_dninN : OpR X (compareOp .NotIn) rDninN := by
  intro pins s σ H x y v u Q I rx ry h
  obtain ⟨a, o, rfl, rfl, g, q⟩ := h
  cases ry
  cases rx
  exact d_notInNone I g fun s3 I3 => ⟨.bl true, H, I3, rfl, q⟩
theorem rv_dic {ks : List Kd} {xs : List D} {K : PySem.W.Frag} {v : V} (h : RV K C w (.dic ks xs) v) : ∃ a vs, v = .ref a ∧ w.H a = some (.dK ((ks.map keyOf).zip vs)) ∧ ks.length = vs.length ∧ RDs K C w.Zf w.H xs vs := h
theorem contains_dec (c : Nat) (s : List Nat) : decide (c ∈ s) = s.contains c := by
  by_cases h : c ∈ s <;> simp [h]
theorem ok_in {k : Nat} (hr : Room k X.A) : OpOk C X (compareOp .In) oIn := by
  intro P w x y z v u Q R hx hy e q
  unfold oIn at e
  cases eb : inOf x y with
  | none => rw [eb] at e; cases e
  | some b =>
    rw [eb] at e
    cases e
    unfold inOf at eb
    split at eb
    · cases eb
      obtain rfl := rv_non hx
      obtain ⟨a, vs, rfl, h1, h2, h3⟩ := rv_dic hy
      exact rmax_of op_dinN ⟨a, _, rfl, rfl, .inl h1, op_end R rd_bl q⟩
    · rename_i c s
      cases eb
      obtain ⟨rfl, _⟩ := rv_str hx
      obtain ⟨rfl, _⟩ := rv_str hy
      refine rmax_of op_in_sign ⟨c, _, rfl, rfl, ?_⟩
      rw [str_cps, contains_dec]
      exact op_end R rd_bl q
    · rename_i ys _
      split at eb
      · rename_i f
        cases eb
        simp only [Bool.and_eq_true] at f
        obtain ⟨p, vs, rfl, h1, h2⟩ := rv_tup hy
        refine rmax_of op_in_seq ⟨p, vs, rfl, .inr h1.sq, flat_v f.1 hx, flats_v f.2 h2, ?_⟩
        rw [inV_memB f.1 hx f.2 h2]
        exact op_end R rd_bl q
      · cases eb
    · rename_i ys _
      obtain ⟨p, vs, rfl, h1, h2⟩ := rv_lst hy
      split at eb
      · rename_i f
        cases eb
        simp only [Bool.and_eq_true] at f
        refine rmax_of op_in_seq ⟨p, vs, rfl, .inl (SqL.of h1), flat_v f.1 hx, flats_v f.2 h2, ?_⟩
        rw [inV_memB f.1 hx f.2 h2]
        exact op_end R rd_bl q
      · split at eb
        · rename_i f
          cases eb
          simp only [Bool.and_eq_true] at f
          have l1 := shp_lay f.1
          have l2 := shp_lay f.2
          simp only [lay] at l2
          have s2 := shp_pd f.2
          simp only [pd] at s2
          refine rmax_of (op_inD (by have := hr.units; have := hr.un; omega)) ⟨pd x, pds _, rv_dp l1 hx, .lst (SqL.of h1) (rds_dp _ vs l2 h2), shp_pd f.1, s2, ?_⟩
          rw [any_memB l1 l2]
          exact op_end R rd_bl q
        · cases eb
    · rename_i ks xs _ _
      split at eb
      · rename_i kd ek
        cases eb
        obtain ⟨a, vs, rfl, h1, h2, h3⟩ := rv_dic hy
        obtain rfl := kd_v ek hx
        refine rmax_of (op_din (hu_of hr)) ⟨a, _, rfl, DGet.k h1, ?_⟩
        rw [any_v h2]
        exact op_end R rd_bl q
      · cases eb
    · cases eb
theorem ok_nin {k : Nat} (hr : Room k X.A) : OpOk C X (compareOp .NotIn) oNin := by
  intro P w x y z v u Q R hx hy e q
  unfold oNin at e
  cases eb : inOf x y with
  | none => rw [eb] at e; cases e
  | some b =>
    rw [eb] at e
    cases e
    unfold inOf at eb
    split at eb
    · cases eb
      obtain rfl := rv_non hx
      obtain ⟨a, vs, rfl, h1, h2, h3⟩ := rv_dic hy
      exact rmax_of op_dninN ⟨a, _, rfl, rfl, .inl h1, op_end R rd_bl q⟩
    · rename_i c s
      cases eb
      obtain ⟨rfl, _⟩ := rv_str hx
      obtain ⟨rfl, _⟩ := rv_str hy
      refine rmax_of op_notIn_sign ⟨c, _, rfl, rfl, ?_⟩
      rw [str_cps, contains_dec]
      exact op_end R rd_bl q
    · rename_i ys _
      split at eb
      · rename_i f
        cases eb
        simp only [Bool.and_eq_true] at f
        obtain ⟨p, vs, rfl, h1, h2⟩ := rv_tup hy
        refine rmax_of op_notIn_seq ⟨p, vs, rfl, .inr h1.sq, flat_v f.1 hx, flats_v f.2 h2, ?_⟩
        rw [inV_memB f.1 hx f.2 h2]
        exact op_end R rd_bl q
      · cases eb
    · rename_i ys _
      obtain ⟨p, vs, rfl, h1, h2⟩ := rv_lst hy
      split at eb
      · rename_i f
        cases eb
        simp only [Bool.and_eq_true] at f
        refine rmax_of op_notIn_seq ⟨p, vs, rfl, .inl (SqL.of h1), flat_v f.1 hx, flats_v f.2 h2, ?_⟩
        rw [inV_memB f.1 hx f.2 h2]
        exact op_end R rd_bl q
      · split at eb
        · rename_i f
          cases eb
          simp only [Bool.and_eq_true] at f
          have l1 := shp_lay f.1
          have l2 := shp_lay f.2
          simp only [lay] at l2
          have s2 := shp_pd f.2
          simp only [pd] at s2
          refine rmax_of (op_notInD (by have := hr.units; have := hr.un; omega)) ⟨pd x, pds _, rv_dp l1 hx, .lst (SqL.of h1) (rds_dp _ vs l2 h2), shp_pd f.1, s2, ?_⟩
          rw [any_memB l1 l2]
          exact op_end R rd_bl q
        · cases eb
    · rename_i ks xs _ _
      split at eb
      · rename_i kd ek
        cases eb
        obtain ⟨a, vs, rfl, h1, h2, h3⟩ := rv_dic hy
        obtain rfl := kd_v ek hx
        refine rmax_of (op_dnin (hu_of hr)) ⟨a, _, rfl, DGet.k h1, ?_⟩
        rw [any_v h2]
        exact op_end R rd_bl q
      · cases eb
    · cases eb
end
end Z
end

section
set_option Elab.async false
set_option linter.all false
set_option maxRecDepth 100000
set_option maxHeartbeats 4000000
/-! Expressions. -/
namespace Z
open PySem PySem.Spec PyProof.Rows L2
section
variable {C : Cg} {X : Cx} {P : Pm} {w w1 w2 : Wd} {U : WX} {σ : L2.St} {env : Env} {e a b c o : Expr} {es : List Expr} {pos : Pos} {fa fb fc : CE}
theorem out_ok {α β : Type} {K : PySem.W.Frag} {rel : Wd → α → β → Prop} {x : α} {v : β} {Q : β → Hp → Prop} (R : Rel K C P w) (h : Out K C P U σ rel w (.ok x w.s) Q) (r : rel w x v) : Q v w.H := h w rfl (Step.refl R) v r
theorem rw_bl {K : PySem.W.Frag} {b : Bool} : RW K C w (.d (.bl b)) (.bl b) := rd_bl (K := K) (C := C) (Zf := w.Zf) (H := w.H)
theorem rw_int {K : PySem.W.Frag} {b : Int} : RW K C w (.d (.int b)) (.int b) := rd_int (K := K) (C := C) (Zf := w.Zf) (H := w.H)
theorem rw_non {K : PySem.W.Frag} : RW K C w (.d .non) .non := rd_non (K := K) (C := C) (Zf := w.Zf) (H := w.H)
theorem rw_str {K : PySem.W.Frag} {t : List Nat} (h : t.length ≤ 16777216) : RW K C w (.d (.str t)) (vstr t) := rd_str (K := K) (C := C) (Zf := w.Zf) (H := w.H) h
/-! ### names, constants -/
theorem se_var (i : Nat) {x : Str} {pos : Pos} (hN : X.N[i]? = some x := by rfl) (hv : Vis X.env.scope x := by first | exact Or.inl rfl | exact Or.inr (Or.inl rfl) | exact Or.inr (Or.inr rfl)) (hd : (x == ("__debug__" : Str)) = false := by decide)
    (hcd : (x == ("__classdict__" : Str)) = false := by decide) : SE C X (.Name x pos) (cVar i) := by
  intro P U w env σ Q tk R E h
  refine ex_of (pe_var hN hv hd hcd) ?_
  unfold cVar at h
  cases q : env[i]? with
  | none => rw [q] at h; exact h.elim
  | some y =>
    cases y with
    | none => rw [q] at h; exact h.elim
    | some y =>
      rw [q] at h
      obtain ⟨v, e1, r⟩ := E.at_ i y q
      exact ⟨v, e1, out_ok R h r⟩
theorem se_const {t : V} {x : D} (h : PE X e (tC t)) (r : ∀ (Zf : Addr → Prop) (H : Hp), RD X.K C Zf H x t) : SE C X e (cK x) := by
  intro P U w env σ Q tk R E hq
  exact ex_of h (out_ok (x := W.d x) R hq (r _ _))
theorem se_int {i : Int} {k : Nat} : SE C X (.Constant (.int i) k pos) (cK (.int i)) := se_const pe_int fun _ _ => rd_int
theorem se_bl {i : Bool} {k : Nat} : SE C X (.Constant (.bool i) k pos) (cK (.bl i)) := se_const pe_bl fun _ _ => rd_bl
theorem se_non {k : Nat} : SE C X (.Constant .none k pos) (cK .non) := se_const pe_non fun _ _ => rd_non
theorem se_str {x : Str} {k : Nat} (s : List Nat) (h : x.cps.toList = s := by decide +kernel) (hl : s.length ≤ 16777216 := by decide +kernel) : SE C X (.Constant (.str x) k pos) (cK (.str s)) :=
  se_const pe_str fun _ _ => by
    have e : x = ⟨s.toArray⟩ := by
      rw [← h]
    rw [e]
    exact rd_str hl
/-- a constant of the module -/
structure GK (K : PySem.W.Frag) (C : Cg) (mg : Str → Option Value) (x : Str) (d : D) : Prop where
  ex : ∃ u v, mg x = some u ∧ RelV v u ∧ ∀ (Zf : Addr → Prop) (H : Hp), RD K C Zf H d v
theorem se_glob {x : Str} {d : D} (g : GK X.K C X.mg x d) (hg : Gl X x := by rfl) (hd : (x == ("__debug__" : Str)) = false := by decide) : SE C X (.Name x pos) (cK d) := by
  obtain ⟨u, v, h1, h2, h3⟩ := g.ex
  exact se_const (pe_glob hg h1 h2 hd) h3

/-! ### comparisons -/
theorem se_cmp {op : CmpOp} {k : Op2} (k0 : OpOk C X (compareOp op) k) (ha : SE C X a fa) (hb : SE C X b fb) (hm : behindInMarks op b = false := by first | exact nomark _ | rfl) : SE C X (.Compare a [op] [b] pos) (cOp k fa fb) := by
  intro P U w env σ Q tk R E h
  refine ex_of (pe_cmpR rmax_ok pe_ex pe_ex hm) ?_
  refine ha.go tk R E h fun w1 x v st ra E1 h1 => ?_
  refine hb.go tk st.rel E1 h1 fun w2 y u st2 rb E2 h2 => ?_
  exact cOp_end k0 st2.rel (RW.mono st2 ra) rb h2
theorem pe_isN {k : Nat} {p : Pos} {ta : TE} (h : PE X a ta) : PE X (.Compare a [.Is] [.Constant .none k p] pos) (tIsN ta) := pe_cmp (pc_isN h) rfl
theorem pe_notN {k : Nat} {p : Pos} {ta : TE} (h : PE X a ta) : PE X (.Compare a [.IsNot] [.Constant .none k p] pos) (tNotN ta) := pe_cmp (pc_notN h) rfl
def isN : D → Bool
  | .non => true
  | _ => false
theorem rv_isN {K : PySem.W.Frag} {x : D} {v : V} (h : RV K C w x v) : decide (v = V.non) = isN x := by
  cases x with
  | non => rw [rv_non h] <;> rfl
  | bl _ => rw [rv_bl h] <;> rfl
  | int _ => rw [rv_int h] <;> rfl
  | str _ => rw [(rv_str h).1] <;> rfl
  | tup _ => obtain ⟨a, vs, rfl, _⟩ := rv_tup h; rfl
  | lst _ => obtain ⟨a, vs, rfl, _⟩ := rv_lst h; rfl
  | dic _ _ => obtain ⟨a, vs, rfl, _⟩ := rv_dic h; rfl
  | lck _ =>
    have h2 : RD K C w.Zf w.H _ v := h
    simp only [RD] at h2
    obtain ⟨a, rfl, _⟩ := h2
    rfl
  | obj _ _ =>
    have h2 : RD K C w.Zf w.H _ v := h
    simp only [RD] at h2
    obtain ⟨a, dx, vs, rfl, _⟩ := h2
    rfl
theorem se_isN {k : Nat} {p : Pos} (ha : SE C X a fa) : SE C X (.Compare a [.Is] [.Constant .none k p] pos) (cUn oIsN fa) := by
  intro P U w env σ Q tk R E h
  refine ex_of (pe_isN pe_ex) ?_
  refine ha.go tk R E h fun w1 x v st ra E1 h1 => ?_
  cases ex : view x w1.s with
  | none => rw [ex] at h1; exact h1.elim
  | some y =>
    rw [ex] at h1
    have r := view_rv st.rel ra ex
    show Q (.bl (decide (v = .non))) w1.H
    rw [rv_isN r]
    dsimp only at h1
    cases y <;> exact out_ok st.rel h1 rw_bl
theorem se_notN {k : Nat} {p : Pos} (ha : SE C X a fa) : SE C X (.Compare a [.IsNot] [.Constant .none k p] pos) (cUn oNotN fa) := by
  intro P U w env σ Q tk R E h
  refine ex_of (pe_notN pe_ex) ?_
  refine ha.go tk R E h fun w1 x v st ra E1 h1 => ?_
  cases ex : view x w1.s with
  | none => rw [ex] at h1; exact h1.elim
  | some y =>
    rw [ex] at h1
    have r := view_rv st.rel ra ex
    show Q (.bl (!decide (v = .non))) w1.H
    rw [rv_isN r]
    dsimp only at h1
    cases y <;> exact out_ok st.rel h1 rw_bl
theorem se_neg (ha : SE C X a fa) : SE C X (.UnaryOp .USub a pos) (cUn oNeg fa) := by
  intro P U w env σ Q tk R E h
  refine ex_of (pe_un un_neg pe_ex) ?_
  refine ha.go tk R E h fun w1 x v st ra E1 h1 => ?_
  cases ex : view x w1.s with
  | none => rw [ex] at h1; exact h1.elim
  | some y =>
    rw [ex] at h1
    have r := view_rv st.rel ra ex
    dsimp only at h1
    cases y with
    | int i =>
      obtain rfl := rv_int r
      exact ⟨i, rfl, out_ok st.rel h1 rw_int⟩
    | _ => exact h1.elim
/-- a op b op' c -/
theorem chain_core {op op' : CmpOp} {k k' : Op2} (k0 : OpOk C X (compareOp op) k) (k1 : OpOk C X (compareOp op') k') (ha : SE C X a fa) (hb : SE C X b fb) (hc : SE C X c fc) (tk : Takes X U) (R : Rel X.K C P w) (E : RE X.K C w env σ) {Q : VK}
    (h : Out X.K C P U σ (RW X.K C) w (cChain k k' fa fb fc env w.s) Q) : tChain (rmax X (compareOp op)) (rmax X (compareOp op')) (EX X a) (EX X b) (EX X c) σ w.H Q := by
  refine ha.go tk R E h fun w1 x v st ra E1 h1 => ?_
  refine hb.go tk st.rel E1 h1 fun w2 y u st2 rb E2 h2 => ?_
  have ra2 := RW.mono st2 ra
  cases e1 : view x w2.s with
  | none => rw [e1] at h2; exact h2.elim
  | some dx =>
    cases e2 : view y w2.s with
    | none => rw [e1, e2] at h2; exact h2.elim
    | some dy =>
      rw [e1, e2] at h2
      dsimp only at h2
      cases e3 : k dx dy with
      | none => rw [e3] at h2; exact h2.elim
      | some dz =>
        rw [e3] at h2
        refine k0 P w2 dx dy dz v u _ st2.rel (view_rv st2.rel ra2 e1) (view_rv st2.rel rb e2) e3 fun w3 r es st3 rr => ?_
        cases dz with
        | bl t =>
          have er : r = .bl t := by simpa only [RD] using rr
          refine ⟨t, er, ?_⟩
          cases t with
          | true =>
            rw [if_pos rfl]
            rw [← es] at h2
            refine hc.go tk st3.rel (E2.mono st3) (Out.mono st3 h2) fun w4 z q st4 rc E4 h4 => ?_
            cases e4 : view y w4.s with
            | none => rw [e4] at h4; exact h4.elim
            | some dy' =>
              cases e5 : view z w4.s with
              | none => rw [e4, e5] at h4; exact h4.elim
              | some dz' =>
                rw [e4, e5] at h4
                dsimp only at h4
                cases e6 : k' dy' dz' with
                | none => rw [e6] at h4; exact h4.elim
                | some dt =>
                  rw [e6] at h4
                  exact k1 P w4 dy' dz' dt u q _ st4.rel (view_rv st4.rel (RW.mono (st3.trans st4) rb) e4) (view_rv st4.rel rc e5) e6 fun w5 r5 es5 st5 rr5 => h4 w5 es5 st5 r5 rr5
          | false =>
            rw [if_neg Bool.false_ne_true]
            exact h2 w3 es st3 (.bl false) rw_bl
        | _ => exact h2.elim

theorem se_chain {op op' : CmpOp} {k k' : Op2} (k0 : OpOk C X (compareOp op) k) (k1 : OpOk C X (compareOp op') k') (ha : SE C X a fa) (hb : SE C X b fb) (hc : SE C X c fc)
    (hm : lastMarks [op, op'] [b, c] = false := by with_unfolding_all rfl) : SE C X (.Compare a [op, op'] [b, c] pos) (cChain k k' fa fb fc) :=
  fun P U w env σ Q tk R E h => ex_of (pe_chain rmax_ok rmax_ok pe_ex pe_ex pe_ex hm) (chain_core k0 k1 ha hb hc tk R E h)
/-! ### tests -/
theorem out_tb {K : PySem.W.Frag} {r : RS W} {Q : Bool → Hp → Prop} (h : Out K C P U σ (fun _ a b => a = b) w (r.bind fun x s1 => match x with
    | W.d (.bl b) => RS.ok b s1
    | _ => .bad) Q) : Out K C P U σ (RW K C) w r fun x H => ∃ k, x = .bl k ∧ Q k H := by
  cases r with
  | bad => exact h
  | exc x s => exact h
  | ok x s =>
    intro w' es st v ra
    cases x with
    | ref i => exact h.elim
    | d x =>
      cases x with
      | bl b =>
        have ev : v = .bl b := by
          have : RD K C w'.Zf w'.H (.bl b) v := ra
          simpa only [RD] using this
        exact ⟨b, ev, h w' es st b rfl⟩
      | _ => exact h.elim
theorem st_chain {op op' : CmpOp} {k k' : Op2} (k0 : OpOk C X (compareOp op) k) (k1 : OpOk C X (compareOp op') k') (ha : SE C X a fa) (hb : SE C X b fb) (hc : SE C X c fc)
    (hm : lastMarks [op, op'] [b, c] = false := by with_unfolding_all rfl) : ST C X (.Compare a [op, op'] [b, c] pos) (cTB (cChain k k' fa fb fc)) :=
  fun P U w env σ Q tk R E h => tx_of (pt_chain rmax_ok rmax_ok pe_ex pe_ex pe_ex hm) (chain_core k0 k1 ha hb hc tk R E (out_tb h))
theorem st_val (ha : SE C X a fa) (he : ∀ whole, isTrue a X.env whole = (do let v ← whole; standAt a.pos; holding [v] (truthy v)) := by intro _; rfl) : ST C X a (cTB fa) := by
  intro P U w env σ Q tk R E h
  refine tx_of (pt_val pe_ex he) ?_
  refine ha.go tk R E h fun w1 x v st ra E1 h1 => ?_
  cases x with
  | ref i => exact h1.elim
  | d x =>
    cases x with
    | bl b =>
      have ev : v = .bl b := by
        have : RD X.K C w1.Zf w1.H (.bl b) v := ra
        simpa only [RD] using this
      exact ⟨b, ev, out_ok st.rel h1 rfl⟩
    | _ => exact h1.elim
theorem cmp_core {op : CmpOp} {k : Op2} (k0 : OpOk C X (compareOp op) k) (ha : SE C X a fa) (hb : SE C X b fb) (tk : Takes X U) (R : Rel X.K C P w) (E : RE X.K C w env σ) {Q : VK}
    (h : Out X.K C P U σ (RW X.K C) w (cOp k fa fb env w.s) Q) : tOp (rmax X (compareOp op)) (EX X a) (EX X b) σ w.H Q := by
  refine ha.go tk R E h fun w1 x v st ra E1 h1 => ?_
  refine hb.go tk st.rel E1 h1 fun w2 y u st2 rb E2 h2 => ?_
  exact cOp_end k0 st2.rel (RW.mono st2 ra) rb h2
theorem st_cmp {op : CmpOp} {k : Op2} (k0 : OpOk C X (compareOp op) k) (ha : SE C X a fa) (hb : SE C X b fb) (hm : behindInMarks op b = false := by first | exact nomark _ | rfl) : ST C X (.Compare a [op] [b] pos) (cTB (cOp k fa fb)) :=
  fun P U w env σ Q tk R E h => tx_of (pt_cmpR rmax_ok pe_ex pe_ex hm) (cmp_core k0 ha hb tk R E (out_tb h))
/-- is None, is not None -/
theorem st_isN {k : Nat} {p : Pos} (ha : SE C X a fa) : ST C X (.Compare a [.Is] [.Constant .none k p] pos) (cTB (cUn oIsN fa)) := by
  intro P U w env σ Q tk R E h
  refine tx_of (pt_cmp (pc_isN pe_ex) rfl) ?_
  have h := out_tb h
  refine ha.go tk R E h fun w1 x v st ra E1 h1 => ?_
  cases ex : view x w1.s with
  | none => rw [ex] at h1; exact h1.elim
  | some y =>
    rw [ex] at h1
    have r := view_rv st.rel ra ex
    refine ⟨decide (v = .non), rfl, ?_⟩
    rw [rv_isN r]
    dsimp only at h1
    cases y with
    | non =>
      obtain ⟨k, e, q⟩ := out_ok st.rel h1 (rw_bl (b := true))
      cases e
      exact q
    | _ =>
      obtain ⟨k, e, q⟩ := out_ok st.rel h1 (rw_bl (b := false))
      cases e
      exact q
theorem st_notN {k : Nat} {p : Pos} (ha : SE C X a fa) : ST C X (.Compare a [.IsNot] [.Constant .none k p] pos) (cTB (cUn oNotN fa)) := by
  intro P U w env σ Q tk R E h
  refine tx_of (pt_cmp (pc_notN pe_ex) rfl) ?_
  have h := out_tb h
  refine ha.go tk R E h fun w1 x v st ra E1 h1 => ?_
  cases ex : view x w1.s with
  | none => rw [ex] at h1; exact h1.elim
  | some y =>
    rw [ex] at h1
    have r := view_rv st.rel ra ex
    refine ⟨!decide (v = .non), rfl, ?_⟩
    rw [rv_isN r]
    dsimp only at h1
    cases y with
    | non =>
      obtain ⟨k, e, q⟩ := out_ok st.rel h1 (rw_bl (b := false))
      cases e
      exact q
    | _ =>
      obtain ⟨k, e, q⟩ := out_ok st.rel h1 (rw_bl (b := true))
      cases e
      exact q
theorem tru_v {K : PySem.W.Frag} {x : D} {v : V} {k : Bool} (h : RV K C w x v) (e : truth x = some k) : TruV K v w.H k := by
  cases x with
  | non =>
    cases e
    rw [rv_non h]
    exact rfl
  | bl _ =>
    cases e
    rw [rv_bl h]
    exact rfl
  | int _ =>
    cases e
    rw [rv_int h]
    exact rfl
  | str s =>
    cases e
    obtain ⟨rfl, l⟩ := rv_str h
    refine ⟨by rw [str_len, sizeLine_eq]; exact l, ?_⟩
    rw [str_len]
    cases s with
    | nil => rfl
    | cons c r =>
      have : ((((c :: r).length : Nat) : Int) != 0) = true := by
        rw [List.length_cons]
        simp
        omega
      rw [this]
      rfl
  | tup xs =>
    cases e
    obtain ⟨a, vs, rfl, h1, h2⟩ := rv_tup h
    refine .inr (.inl ⟨vs, h1.sq, ?_⟩)
    have := h2.length
    cases xs <;> cases vs <;> first | rfl | cases this
  | lst xs =>
    cases e
    obtain ⟨a, vs, rfl, h1, h2⟩ := rv_lst h
    refine .inl ⟨vs, SqL.of h1, ?_⟩
    have := h2.length
    cases xs <;> cases vs <;> first | rfl | cases this
  | dic ks xs =>
    cases e
    obtain ⟨a, vs, rfl, h1, h2, h3⟩ := rv_dic h
    refine .inr (.inr ⟨_, h1, ?_⟩)
    cases ks <;> cases vs <;> first | rfl | cases h2
  | lck _ => cases e
  | obj _ _ => cases e
theorem st_tru (ha : SE C X a fa) (he : ∀ whole, isTrue a X.env whole = (do let v ← whole; standAt a.pos; holding [v] (truthy v)) := by intro _; rfl) : ST C X a (cTru fa) := by
  intro P U w env σ Q tk R E h
  refine tx_of (pt_truth pe_ex he) ?_
  refine ha.go tk R E h fun w1 x v st ra E1 h1 => ?_
  cases ex : view x w1.s with
  | none => rw [ex] at h1; exact h1.elim
  | some y =>
    rw [ex] at h1
    dsimp only at h1
    cases et : truth y with
    | none => rw [et] at h1; exact h1.elim
    | some k =>
      rw [et] at h1
      exact ⟨k, tru_v (view_rv st.rel ra ex) et, out_ok st.rel h1 rfl⟩
/-- and, or ahead of any other test -/
def SW (C : Cg) (X : Cx) (e : Expr) (f : CT) : Prop := ∀ (whole : Sem Value) (P : Pm) (U : WX) (w : Wd) (env : Env) (σ : L2.St) (Q : Bool → Hp → Prop), Takes X U → Rel X.K C P w → RE X.K C w env σ → Out X.K C P U σ (fun _ a b => a = b) w (f env w.s) Q →
  ∀ (pins : List (Addr × Obj)) (s : Shared), Inv X pins σ w.H s → wpAny (model X.prog X.w) X.A (isTrue e X.env whole) (TP X pins σ Q) X.xe s
theorem SW.st {f : CT} (h : SW C X e f) : ST C X e f := fun P U w env σ Q tk R E q => h _ P U w env σ Q tk R E q
def WXt (X : Cx) (e : Expr) : TT := fun σ H Q => ∀ (whole : Sem Value) (pins : List (Addr × Obj)) (s : Shared), Inv X pins σ H s → wpAny (model X.prog X.w) X.A (isTrue e X.env whole) (TP X pins σ Q) X.xe s
theorem pw_wx : PW X e (WXt X e) := ⟨fun wh pins s σ H Q I h => h wh pins s I⟩
theorem SW.go {f : CT} (ha : SW C X e f) (tk : Takes X U) (R : Rel X.K C P w) (E : RE X.K C w env σ) {Q : Bool → Hp → Prop} (h : Out X.K C P U σ (fun _ a b => a = b) w (f env w.s) Q) : WXt X e σ w.H Q :=
  fun wh pins s I => ha wh P U w env σ Q tk R E h pins s I
variable {ta tb : CT} {rest : List Expr}
theorem sw_and1 (ha : ST C X a ta) : SW C X (.BoolOp .And [a] pos) ta := fun wh P U w env σ Q tk R E h pins s I => (pw_and1 pt_tx).run wh pins s σ w.H Q I (ha P U w env σ Q tk R E h)
theorem sw_or1 (ha : ST C X a ta) : SW C X (.BoolOp .Or [a] pos) ta := fun wh P U w env σ Q tk R E h pins s I => (pw_or1 pt_tx).run wh pins s σ w.H Q I (ha P U w env σ Q tk R E h)
theorem sw_and (ha : ST C X a ta) (hb : SW C X (.BoolOp .And (b :: rest) pos) tb) : SW C X (.BoolOp .And (a :: b :: rest) pos) (tAnd ta tb) := by
  intro wh P U w env σ Q tk R E h pins s I
  refine (pw_and pt_tx pw_wx).run wh pins s σ w.H Q I ?_
  refine ha.go tk R E h fun w1 x st E1 h1 => ?_
  cases x with
  | true =>
    rw [if_pos rfl] at h1 ⊢
    exact hb.go tk st.rel E1 h1
  | false =>
    rw [if_neg Bool.false_ne_true] at h1 ⊢
    exact out_ok st.rel h1 rfl
theorem sw_or (ha : ST C X a ta) (hb : SW C X (.BoolOp .Or (b :: rest) pos) tb) : SW C X (.BoolOp .Or (a :: b :: rest) pos) (tOr ta tb) := by
  intro wh P U w env σ Q tk R E h pins s I
  refine (pw_or pt_tx pw_wx).run wh pins s σ w.H Q I ?_
  refine ha.go tk R E h fun w1 x st E1 h1 => ?_
  cases x with
  | false =>
    rw [if_neg Bool.false_ne_true] at h1 ⊢
    exact hb.go tk st.rel E1 h1
  | true =>
    rw [if_pos rfl] at h1 ⊢
    exact out_ok st.rel h1 rfl
theorem st_not (ha : ST C X a ta) : ST C X (.UnaryOp .Not a pos) (tNot ta) := by
  intro P U w env σ Q tk R E h
  refine tx_of (pt_not pt_tx) ?_
  exact ha.go tk R E h fun w1 x st E1 h1 => out_ok st.rel h1 rfl
/-! .. as values -/
theorem se_one {op : BoolOp} (ha : SE C X a fa) : SE C X (.BoolOp op [a] pos) fa := fun P U w env σ Q tk R E h => ex_of (pe_one pe_ex) (ha P U w env σ Q tk R E h)
theorem se_and (ha : SE C X a fa) (hb : SE C X (.BoolOp .And (b :: rest) pos) fb) : SE C X (.BoolOp .And (a :: b :: rest) pos) (cAnd fa fb) := by
  intro P U w env σ Q tk R E h
  refine ex_of (pe_and pe_ex pe_ex) ?_
  refine ha.go tk R E h fun w1 x v st ra E1 h1 => ?_
  cases x with
  | ref i => exact h1.elim
  | d x =>
    cases x with
    | bl t =>
      have ev : v = .bl t := by
        have : RD X.K C w1.Zf w1.H (.bl t) v := ra
        simpa only [RD] using this
      refine ⟨t, ev, ?_⟩
      cases t with
      | true =>
        rw [if_pos rfl]
        exact hb P U w1 env σ Q tk st.rel E1 h1
      | false =>
        rw [if_neg Bool.false_ne_true]
        exact out_ok st.rel h1 rw_bl
    | _ => exact h1.elim
theorem se_or (ha : SE C X a fa) (hb : SE C X (.BoolOp .Or (b :: rest) pos) fb) : SE C X (.BoolOp .Or (a :: b :: rest) pos) (cOr fa fb) := by
  intro P U w env σ Q tk R E h
  refine ex_of (pe_or pe_ex pe_ex) ?_
  refine ha.go tk R E h fun w1 x v st ra E1 h1 => ?_
  cases x with
  | ref i => exact h1.elim
  | d x =>
    cases x with
    | bl t =>
      have ev : v = .bl t := by
        have : RD X.K C w1.Zf w1.H (.bl t) v := ra
        simpa only [RD] using this
      refine ⟨t, ev, ?_⟩
      cases t with
      | false =>
        rw [if_neg Bool.false_ne_true]
        exact hb P U w1 env σ Q tk st.rel E1 h1
      | true =>
        rw [if_pos rfl]
        exact out_ok st.rel h1 rw_bl
    | _ => exact h1.elim
theorem se_not (ha : SE C X a fa) : SE C X (.UnaryOp .Not a pos) (cNot fa) := by
  intro P U w env σ Q tk R E h
  refine ex_of (pe_not pe_ex) ?_
  refine ha.go tk R E h fun w1 x v st ra E1 h1 => ?_
  cases x with
  | ref i => exact h1.elim
  | d x =>
    cases x with
    | bl t =>
      have ev : v = .bl t := by
        have : RD X.K C w1.Zf w1.H (.bl t) v := ra
        simpa only [RD] using this
      exact ⟨t, ev, out_ok st.rel h1 rw_bl⟩
    | _ => exact h1.elim
theorem se_if {t : CT} (hc : ST C X c t) (ha : SE C X a fa) (hb : SE C X b fb) : SE C X (.IfExp c a b pos) (cIf t fa fb) := by
  intro P U w env σ Q tk R E h
  refine ex_of (pe_ifExp pt_tx pe_ex pe_ex) ?_
  refine hc.go tk R E h fun w1 x st E1 h1 => ?_
  cases x with
  | true =>
    rw [if_pos rfl] at h1 ⊢
    exact ha P U w1 env σ Q tk st.rel E1 h1
  | false =>
    rw [if_neg Bool.false_ne_true] at h1 ⊢
    exact hb P U w1 env σ Q tk st.rel E1 h1
end
end Z
end

section
set_option Elab.async false
set_option linter.all false
set_option maxRecDepth 100000
set_option maxHeartbeats 4000000
/-! Arguments, displays, places, attributes, built-ins. -/
namespace Z
open PySem PySem.Spec PyProof.Rows L2
def AX (X : Cx) (es : List Expr) : TA := fun σ H Q => ∀ (pos : Pos) (pins : List (Addr × Obj)) (s : Shared), Inv X pins σ H s → wpAny (model X.prog X.w) X.A (spliced (backTo pos (starEach es X.env))) (AP X pins σ Q) X.xe s
theorem pa_ax {X : Cx} {es : List Expr} : PA X es (AX X es) := ⟨fun pos pins s σ H Q I h => h pos pins s I⟩
theorem ax_of {X : Cx} {es : List Expr} {t : TA} {σ : L2.St} {H : Hp} {Q : List V → Hp → Prop} (h : PA X es t) (q : t σ H Q) : AX X es σ H Q := fun pos pins s I => h.run pos pins s σ H Q I q
/-- arguments -/
def SA (C : Cg) (X : Cx) (es : List Expr) (f : CA) : Prop := ∀ (P : Pm) (U : WX) (w : Wd) (env : Env) (σ : L2.St) (Q : List V → Hp → Prop), Takes X U → Rel X.K C P w → RE X.K C w env σ → Out X.K C P U σ (RWs X.K C) w (f env w.s) Q → AX X es σ w.H Q
/-- what is wanted of a new list -/
def OutL (K : PySem.W.Frag) (C : Cg) (P : Pm) (U : WX) (σ : L2.St) (w : Wd) (r : RS (List D)) (Q : VK) : Prop := match r with
  | .ok xs s' => ∀ w', w'.s = s' → Step K C P w w' → ∀ vs, RDs K C w'.Zf w'.H xs vs → ∀ p, w'.H p = none → Q (.ref p) (upd w'.H p (.lst vs))
  | .exc x s' => ∀ w', w'.s = s' → Step K C P w w' → ∀ c o, XR K C w' x c o → U c o σ w'.H
  | .bad => False
def SN (C : Cg) (X : Cx) (e : Expr) (f : CL) : Prop := ∀ (P : Pm) (U : WX) (w : Wd) (env : Env) (σ : L2.St) (Q : VK), Takes X U → Rel X.K C P w → RE X.K C w env σ → OutL X.K C P U σ w (f env w.s) Q → EX X e σ w.H Q
section
variable {C : Cg} {X : Cx} {P : Pm} {w w1 w2 : Wd} {U : WX} {σ : L2.St} {env : Env} {e a b c o : Expr} {es : List Expr} {pos : Pos} {fa fb fc : CE} {K : PySem.W.Frag}
theorem SA.go {f : CA} (ha : SA C X es f) (tk : Takes X U) (R : Rel X.K C P w) (E : RE X.K C w env σ) {γ δ : Type} {rel2 : Wd → γ → δ → Prop} {k : List W → S → RS γ} {Q2 : δ → Hp → Prop} (h : Out X.K C P U σ rel2 w ((f env w.s).bind k) Q2) {Q : List V → Hp → Prop}
    (q : ∀ w1 a v, Step X.K C P w w1 → RWs X.K C w1 a v → RE X.K C w1 env σ → Out X.K C P U σ rel2 w1 (k a w1.s) Q2 → Q v w1.H) : AX X es σ w.H Q :=
  ha P U w env σ Q tk R E (Out.bind h fun w1 a v st ra h1 => q w1 a v st ra (E.mono st) h1)
theorem OutL.mono {r : RS (List D)} {Q : VK} (t : Step K C P w w1) (h : OutL K C P U σ w r Q) : OutL K C P U σ w1 r Q := by
  cases r with
  | ok a s => exact fun w' e st v q => h w' e (t.trans st) v q
  | exc x s => exact fun w' e st c o q => h w' e (t.trans st) c o q
  | bad => exact h
theorem OutL.bind {α β : Type} {rel : Wd → α → β → Prop} {r : RS α} {k : α → S → RS (List D)} {Q : VK} (h : OutL K C P U σ w (r.bind k) Q) {Q1 : β → Hp → Prop}
    (q : ∀ w1 a v, Step K C P w w1 → rel w1 a v → OutL K C P U σ w1 (k a w1.s) Q → Q1 v w1.H) : Out K C P U σ rel w r Q1 := by
  cases r with
  | ok a s =>
    intro w1 e st v ra
    subst e
    exact q w1 a v st ra (OutL.mono st h)
  | exc x s => exact h
  | bad => exact h
theorem SE.goL {f : CE} (ha : SE C X e f) (tk : Takes X U) (R : Rel X.K C P w) (E : RE X.K C w env σ) {k : W → S → RS (List D)} {Q2 : VK} (h : OutL X.K C P U σ w ((f env w.s).bind k) Q2) {Q : VK}
    (q : ∀ w1 a v, Step X.K C P w w1 → RW X.K C w1 a v → RE X.K C w1 env σ → OutL X.K C P U σ w1 (k a w1.s) Q2 → Q v w1.H) : EX X e σ w.H Q :=
  ha P U w env σ Q tk R E (OutL.bind h fun w1 a v st ra h1 => q w1 a v st ra (E.mono st) h1)
theorem SA.goL {f : CA} (ha : SA C X es f) (tk : Takes X U) (R : Rel X.K C P w) (E : RE X.K C w env σ) {k : List W → S → RS (List D)} {Q2 : VK} (h : OutL X.K C P U σ w ((f env w.s).bind k) Q2) {Q : List V → Hp → Prop}
    (q : ∀ w1 a v, Step X.K C P w w1 → RWs X.K C w1 a v → RE X.K C w1 env σ → OutL X.K C P U σ w1 (k a w1.s) Q2 → Q v w1.H) : AX X es σ w.H Q :=
  ha P U w env σ Q tk R E (OutL.bind h fun w1 a v st ra h1 => q w1 a v st ra (E.mono st) h1)
theorem outL_ok {xs : List D} {vs : List V} {Q : VK} (R : Rel K C P w) (h : OutL K C P U σ w (.ok xs w.s) Q) (r : RDs K C w.Zf w.H xs vs) : ∀ p, w.H p = none → Q (.ref p) (upd w.H p (.lst vs)) := fun p hp => h w rfl (Step.refl R) vs r p hp

/-! ### arguments -/
theorem sa_nil : SA C X [] aNil := fun P U w env σ Q tk R E h => ax_of pa_nil (out_ok R h (show RWs X.K C w [] [] from rfl))
theorem sa_cons {f : CA} (ha : SE C X e fa) (hr : SA C X es f) (hs : starEach (e :: es) X.env = (false, eval e X.env) :: starEach es X.env := by rfl) : SA C X (e :: es) (aCons fa f) := by
  intro P U w env σ Q tk R E h
  refine ax_of (pa_cons pe_ex pa_ax hs) ?_
  refine ha.go tk R E h fun w1 x v st ra E1 h1 => ?_
  refine hr.go tk st.rel E1 h1 fun w2 xs vs st2 rs E2 h2 => ?_
  exact out_ok st2.rel h2 ⟨v, vs, rfl, RW.mono st2 ra, rs⟩
theorem RWs.append : ∀ {xs ys : List W} {vs us : List V}, RWs K C w xs vs → RWs K C w ys us → RWs K C w (xs ++ ys) (vs ++ us)
  | [], _, _, _, h, t => by
    cases (show _ = [] from h)
    exact t
  | _ :: _, _, _, _, ⟨v, r, e, h1, h2⟩, t => by
    subst e
    exact ⟨v, r ++ _, rfl, h1, RWs.append h2 t⟩
theorem RDs.ws : ∀ {xs : List D} {vs : List V}, RDs K C w.Zf w.H xs vs → RWs K C w (xs.map W.d) vs
  | [], vs, h => by
    simp only [RDs] at h
    exact h
  | x :: xs, vs, h => by
    simp only [RDs] at h
    obtain ⟨v, r, e, h1, h2⟩ := h
    exact ⟨v, r, e, h1, RDs.ws h2⟩
theorem items_v {x : D} {v : V} {xs : List D} (h : RV K C w x v) (e : itemsOf x = some xs) : ∃ a vs, v = .ref a ∧ (SqT K w.H a vs ∨ SqL K w.H a vs) ∧ RDs K C w.Zf w.H xs vs := by
  cases x with
  | tup ys =>
    cases e
    obtain ⟨a, vs, rfl, h1, h2⟩ := rv_tup h
    exact ⟨a, vs, rfl, .inl h1.sq, h2⟩
  | lst ys =>
    cases e
    obtain ⟨a, vs, rfl, h1, h2⟩ := rv_lst h
    exact ⟨a, vs, rfl, .inr (SqL.of h1), h2⟩
  | _ => cases e
theorem sa_star {f : CA} {p : Pos} (ha : SE C X e fa) (hr : SA C X es f) (hs : starEach (.Starred e p :: es) X.env = (true, eval e X.env) :: starEach es X.env := by rfl) : SA C X (.Starred e p :: es) (aStar fa f) := by
  intro P U w env σ Q tk R E h
  refine ax_of (StX.pa_star pe_ex pa_ax hs) ?_
  refine ha.go tk R E h fun w1 x v st ra E1 h1 => ?_
  cases e1 : view x w1.s with
  | none => rw [e1] at h1; exact h1.elim
  | some y =>
    rw [e1] at h1
    dsimp only at h1
    cases e2 : itemsOf y with
    | none => rw [e2] at h1; exact h1.elim
    | some xs =>
      rw [e2] at h1
      obtain ⟨p, vs, rfl, h3, h4⟩ := items_v (view_rv st.rel ra e1) e2
      refine ⟨p, vs, rfl, h3, ?_⟩
      refine hr.go tk st.rel E1 h1 fun w2 ys us st2 rs E2 h2 => ?_
      exact out_ok st2.rel h2 (RWs.append (RDs.ws (RDs.mono st2.ex _ _ h4)) rs)
theorem asDs_v : ∀ {ws : List W} {vs : List V} {xs : List D}, RWs K C w ws vs → asDs ws = some xs → RDs K C w.Zf w.H xs vs
  | [], vs, xs, h, e => by
    cases e
    simp only [RDs]
    exact h
  | .d x :: r, vs, xs, h, e => by
    obtain ⟨v, us, ev, h1, h2⟩ := h
    unfold asDs at e
    cases q : asDs r with
    | none => rw [q] at e; cases e
    | some ys =>
      rw [q] at e
      cases e
      simp only [RDs]
      exact ⟨v, us, ev, h1, asDs_v h2 q⟩
  | .ref _ :: _, _, _, _, e => by cases e
theorem viewAll_v (R : Rel K C P w) : ∀ {ws : List W} {vs : List V} {xs : List D}, RWs K C w ws vs → viewAll ws w.s = some xs → Paired (RV K C w) xs vs
  | [], vs, xs, h, e => by
    cases e
    cases (show _ = [] from h)
    exact .nil
  | x :: r, vs, xs, h, e => by
    obtain ⟨v, us, ev, h1, h2⟩ := h
    unfold viewAll at e
    cases q1 : view x w.s with
    | none => rw [q1] at e; cases e
    | some d =>
      cases q : viewAll r w.s with
      | none => rw [q1, q] at e; cases e
      | some ys =>
        rw [q1, q] at e
        cases e
        subst ev
        exact .cons (view_rv R h1 q1) (viewAll_v R h2 q)

/-! ### displays -/
theorem se_tup {f : CA} {x1 : Nat} (ha : SA C X es f) : SE C X (.Tuple es x1 pos) (cTup f) := by
  intro P U w env σ Q tk R E h
  refine ex_of (pe_tup pa_ax) ?_
  refine ha.go tk R E h fun w1 ws vs st rs E1 h1 => ?_
  cases e1 : asDs ws with
  | none => rw [e1] at h1; exact h1.elim
  | some xs =>
    rw [e1] at h1
    dsimp only at h1
    have hv := asDs_v rs e1
    split at h1
    · rename_i hl
      refine ⟨by rw [← hv.length, ← lim_eq]; exact hl, fun p hp => ?_⟩
      exact h1 { w1 with H := upd w1.H p (.tup vs) } rfl (step_new st.rel hp _) (.ref p) (rd_tup st.rel hp hv)
    · exact h1.elim
theorem sn_disp {f : CA} (ha : SA C X es f) : SN C X (.List es pos) (lDisp f) := by
  intro P U w env σ Q tk R E h
  refine ex_of (pe_lst pa_ax) ?_
  refine ha.goL tk R E h fun w1 ws vs st rs E1 h1 => ?_
  cases e1 : asDs ws with
  | none => rw [e1] at h1; exact h1.elim
  | some xs =>
    rw [e1] at h1
    dsimp only at h1
    have hv := asDs_v rs e1
    split at h1
    · rename_i hl
      exact ⟨by rw [← hv.length, ← lim_eq]; exact hl, outL_ok st.rel h1 hv⟩
    · exact h1.elim
/-- a list that is never changed -/
theorem se_frz {f : CL} (h0 : SN C X e f) : SE C X e (cFrz f) := by
  intro P U w env σ Q tk R E h
  refine h0 P U w env σ Q tk R E ?_
  unfold cFrz at h
  cases q : f env w.s with
  | bad => rw [q] at h; exact h
  | exc x s => rw [q] at h; exact h
  | ok xs s =>
    rw [q] at h
    intro w1 es st vs rs p hp
    refine h { w1 with H := upd w1.H p (.lst vs) } es (st.trans (step_new st.rel hp _)) (.ref p) ?_
    exact rd_lst st.rel hp rs
theorem rds_new (R : Rel K C P w) {p : Addr} (hp : w.H p = none) {o : HO} {xs vs} (h : RDs K C w.Zf w.H xs vs) : RDs K C w.Zf (upd w.H p o) xs vs := RDs.mono (step_new R hp o).ex _ _ h
/-- one that may be -/
theorem step_lst (R : Rel K C P w) {p : Addr} (hp : w.H p = none) {xs vs} (h : RDs K C w.Zf w.H xs vs) : Step K C P w ⟨fun a => w.Zf a ∨ a ∈ foot (p, p) (.lst xs), fun i => if i = w.s.nx then (p, p) else w.m i, w.s.add (.lst xs), upd w.H p (.lst vs)⟩ := by
  refine step_add R (fun b hb => ?_) (fun a ha => ?_) (fun b hb => ?_) fun wn hH hn ex mx hm => ?_
  · obtain rfl : b = p := by simpa [foot] using hb
    exact hp
  · exact upd_ne (by simpa [foot] using ha)
  · obtain rfl : b = p := by simpa [foot] using hb
    exact ⟨_, upd_same⟩
  · exact ⟨vs, by rw [hH]; exact upd_same, RDs.mono ex _ _ h⟩
theorem se_new {f : CL} (h0 : SN C X e f) : SE C X e (cNew f) := by
  intro P U w env σ Q tk R E h
  refine h0 P U w env σ Q tk R E ?_
  unfold cNew at h
  cases q : f env w.s with
  | bad => rw [q] at h; exact h
  | exc x s => rw [q] at h; exact h
  | ok xs s =>
    rw [q] at h
    intro w1 es st vs rs p hp
    subst es
    refine h ⟨fun a => w1.Zf a ∨ a ∈ foot (p, p) (.lst xs), fun i => if i = w1.s.nx then (p, p) else w1.m i, w1.s.add (.lst xs), upd w1.H p (.lst vs)⟩ rfl (st.trans (step_lst st.rel hp rs)) (.ref p) ⟨Nat.lt_succ_self _, ?_⟩
    show V.ref p = .ref (if w1.s.nx = w1.s.nx then (p, p) else w1.m w1.s.nx).1
    rw [if_pos rfl]
/-- an object of the store is not changed any more -/
theorem se_done (h0 : SE C X e fa) : SE C X e (cDone fa) := by
  intro P U w env σ Q tk R E h
  refine h0 P U w env σ Q tk R E ?_
  unfold cDone at h
  refine Out.bind h fun w1 x v st ra h1 => ?_
  cases x with
  | d x => exact out_ok st.rel h1 ra
  | ref i =>
    dsimp only at h1
    cases q : w1.s.get i with
    | none => rw [q] at h1; exact h1.elim
    | some ob =>
      rw [q] at h1
      have sd := step_del st.rel q
      have ho := st.rel.obj i ob q
      have hw := st.rel.own i ob q
      cases ob with
      | lst xs =>
        obtain ⟨vs, g1, g2⟩ := ho
        refine h1 _ rfl sd v ?_
        rw [ra.2]
        show RD _ _ _ _ (.lst xs) _
        simp only [RD]
        exact ⟨_, vs, rfl, ⟨g1, fun z => z.2 (by simp [foot])⟩, RDs.mono sd.ex _ _ g2⟩
      | dic ks xs =>
        obtain ⟨vs, g1, g2, g3⟩ := ho
        refine h1 _ rfl sd v ?_
        rw [ra.2]
        show RD _ _ _ _ (.dic ks xs) _
        simp only [RD]
        exact ⟨_, vs, rfl, g1, fun z => z.2 (by simp [foot]), g2, RDs.mono sd.ex _ _ g3⟩
      | ins c fs => exact h1.elim

/-! ### places -/
def imax (X : Cx) : R2 := fun x y H Q => ∀ (value slice : Expr) (pins : List (Addr × Obj)) (s : Shared) (σ : L2.St) (v u : Value), Inv X pins σ H s → RelV x v → RelV y u → subscripted slice false v u = operate [v, u] (getItem v u) → wpAny (model X.prog X.w) X.A (subscriptTail value slice v u) (EP X pins σ Q) X.xe s
theorem imax_ok : IxR X (imax X) := fun value slice pins s σ H x y v u Q I rx ry h hs => h value slice pins s σ v u I rx ry hs
theorem imax_of {r : R2} (o : IxR X r) {x y : V} {H : Hp} {Q : VK} (h : r x y H Q) : imax X x y H Q := fun value slice pins s σ v u I rx ry hs => o value slice pins s σ H x y v u Q I rx ry h hs
theorem atD_v {α β : Type} {F : α → β → Prop} {xs : List α} {vs : List β} (hl : xs.length = vs.length) (hg : ∀ (i : Nat) (x : α), xs[i]? = some x → ∃ v, vs[i]? = some v ∧ F x v) {i : Int} {x : α} (e : atD xs i = some x) : ∃ v, atI vs i = some v ∧ F x v := by
  unfold atD at e
  unfold atI ixN
  split at e
  · rename_i h0
    obtain ⟨v, h1, h2⟩ := hg _ _ e
    have hlt := (List.getElem?_eq_some_iff.mp h1).1
    rw [if_pos h0, if_pos (by omega)]
    exact ⟨v, h1, h2⟩
  · rename_i h0
    split at e
    · rename_i h3
      obtain ⟨v, h1, h2⟩ := hg _ _ e
      rw [if_neg h0, if_pos (by omega), ← hl]
      exact ⟨v, h1, h2⟩
    · cases e
theorem idx_ok (R : Rel X.K C P w) {x y z : D} {v u : V} {Q : VK} (hx : RV X.K C w x v) (hy : RV X.K C w y u) (e : oIdx x y = some z) (q : ∀ r, RD X.K C w.Zf w.H z r → Q r w.H) : imax X v u w.H Q := by
  unfold oIdx at e
  split at e
  · obtain ⟨p, vs, rfl, h1, h2⟩ := rv_tup hx
    obtain rfl := rv_int hy
    obtain ⟨r, h3, h4⟩ := atD_v h2.length (fun i x e => h2.get e) e
    exact imax_of ix_tup ⟨p, vs, _, r, rfl, rfl, h1.sq, h3, q r h4⟩
  · obtain ⟨p, vs, rfl, h1, h2⟩ := rv_lst hx
    obtain rfl := rv_int hy
    obtain ⟨r, h3, h4⟩ := atD_v h2.length (fun i x e => h2.get e) e
    exact imax_of ix_list ⟨p, vs, _, r, rfl, rfl, SqL.of h1, h3, q r h4⟩
  · rename_i ns i
    have hx2 : RD X.K C w.Zf w.H (.lck ns) v := hx
    simp only [RD] at hx2
    obtain ⟨p, rfl, h1⟩ := hx2
    obtain rfl := rv_int hy
    cases e2 : atD ns i with
    | none => rw [e2] at e; cases e
    | some n =>
      rw [e2] at e
      cases e
      obtain ⟨r, h3, h4⟩ := atD_v (F := fun (x : Int) (v : V) => v = .int x) (xs := ns) (vs := ns.map V.int) (by rw [List.length_map]) (fun i x e => ⟨.int x, by rw [List.getElem?_map, e]; rfl, rfl⟩) e2
      subst h4
      exact imax_of ix_list ⟨p, _, _, _, rfl, rfl, h1.sq, h3, q _ rd_int⟩
  · rename_i s i
    obtain ⟨rfl, hl⟩ := rv_str hx
    obtain rfl := rv_int hy
    cases e2 : atD s i with
    | none => rw [e2] at e; cases e
    | some n =>
      rw [e2] at e
      cases e
      obtain ⟨r, h3, h4⟩ := atD_v (F := fun (x y : Nat) => x = y) (xs := s) (vs := s) rfl (fun i x e => ⟨x, e, rfl⟩) e2
      subst h4
      refine imax_of ix_str ⟨_, _, n, rfl, rfl, by rw [str_len, sizeLine_eq]; exact hl, by rw [str_cps]; exact h3, q _ (rd_str (s := [n]) (by simp))⟩
  · cases e
theorem se_idx (ha : SE C X a fa) (hb : SE C X b fb) (hs : PlainIx b := by exact fun _ _ => rfl) : SE C X (.Subscript a b pos) (cOp oIdx fa fb) := by
  intro P U w env σ Q tk R E h
  refine ex_of (pe_ix imax_ok pe_ex pe_ex hs) ?_
  refine ha.go tk R E h fun w1 x v st ra E1 h1 => ?_
  refine hb.go tk st.rel E1 h1 fun w2 y u st2 rb E2 h2 => ?_
  cases e1 : view x w2.s with
  | none => rw [e1] at h2; exact h2.elim
  | some dx =>
    cases e2 : view y w2.s with
    | none => rw [e1, e2] at h2; exact h2.elim
    | some dy =>
      rw [e1, e2] at h2
      dsimp only at h2
      cases e3 : oIdx dx dy with
      | none => rw [e3] at h2; exact h2.elim
      | some dz =>
        rw [e3] at h2
        exact idx_ok st2.rel (view_rv st2.rel (RW.mono st2 ra) e1) (view_rv st2.rel rb e2) e3 fun r hr => out_ok st2.rel h2 hr
theorem se_idxD {k : Nat} (hr : Room k X.A) (ha : SE C X a fa) (hb : SE C X b fb) (hs : NoSl b := by exact fun _ _ => rfl) : SE C X (.Subscript a b pos) (cOp oIdxD fa fb) := by
  intro P U w env σ Q tk R E h
  refine ex_of (pe_dget (hu_of hr) pe_ex pe_ex hs) ?_
  refine ha.go tk R E h fun w1 x v st ra E1 h1 => ?_
  refine hb.go tk st.rel E1 h1 fun w2 y u st2 rb E2 h2 => ?_
  cases e1 : view x w2.s with
  | none => rw [e1] at h2; exact h2.elim
  | some dx =>
    cases e2 : view y w2.s with
    | none => rw [e1, e2] at h2; exact h2.elim
    | some dy =>
      rw [e1, e2] at h2
      dsimp only at h2
      cases e3 : oIdxD dx dy with
      | none => rw [e3] at h2; exact h2.elim
      | some dz =>
        rw [e3] at h2
        cases dx with
        | dic ks xs =>
          unfold oIdxD at e3
          dsimp only at e3
          cases ek : kdOf dy with
          | none => rw [ek] at e3; cases e3
          | some kd =>
            rw [ek] at e3
            obtain ⟨p, vs, rfl, g1, g2, g3⟩ := rv_dic (view_rv st2.rel (RW.mono st2 ra) e1)
            obtain rfl := kd_v ek (view_rv st2.rel rb e2)
            have hd := dget_v (k := kd) g2 g3
            dsimp only at e3
            rw [e3] at hd
            obtain ⟨r, q1, q2⟩ := hd
            exact ⟨p, r, rfl, by rw [← q1]; exact DGet.k g1, out_ok st2.rel h2 q2⟩
        | _ => cases e3

/-! ### slices -/
def OX (X : Cx) (e : Option Expr) : TO := fun σ H Q => ∀ (pins : List (Addr × Obj)) (s : Shared), Inv X pins σ H s → wpAny (model X.prog X.w) X.A (evalPart e X.env) (fun u s' => ∃ o H', Inv X pins σ H' s' ∧ IsPart u o ∧ Q o H') X.xe s
theorem po_ox {e : Option Expr} : PO X e (OX X e) := ⟨fun pins s σ H Q I h => h pins s I⟩
theorem ox_of {e : Option Expr} {t : TO} {H : Hp} {Q : Option Int → Hp → Prop} (h : PO X e t) (q : t σ H Q) : OX X e σ H Q := fun pins s I => h.run pins s σ H Q I q
/-- a part of a slice -/
def SO (C : Cg) (X : Cx) (e : Option Expr) (f : CO) : Prop := ∀ (P : Pm) (U : WX) (w : Wd) (env : Env) (σ : L2.St) (Q : Option Int → Hp → Prop), Takes X U → Rel X.K C P w → RE X.K C w env σ → Out X.K C P U σ (fun _ a b => a = b) w (f env w.s) Q → OX X e σ w.H Q
theorem so_none : SO C X none pNone := fun P U w env σ Q tk R E h => ox_of po_none (out_ok R h (rfl : (none : Option Int) = none))
theorem so_some (ha : SE C X a fa) : SO C X (some a) (pSome fa) := by
  intro P U w env σ Q tk R E h
  refine ox_of (po_some pe_ex) ?_
  refine ha.go tk R E h fun w1 x v st ra E1 h1 => ?_
  cases x with
  | ref i => exact h1.elim
  | d x =>
    cases x with
    | int i =>
      have ev : v = .int i := by
        have : RD X.K C w1.Zf w1.H (.int i) v := ra
        simpa only [RD] using this
      exact ⟨i, ev, out_ok st.rel h1 rfl⟩
    | _ => exact h1.elim
def smax (X : Cx) : V → Option Int → Option Int → Hp → VK → Prop := fun x lo hi H Q => ∀ (pins : List (Addr × Obj)) (s : Shared) (σ : L2.St) (v vl vu : Value) (sl : Addr), Inv X pins σ H s → RelV x v → s.heap.IsSliceOf sl vl vu .none → IsPart vl lo → IsPart vu hi →
    ∃ T id, typeLookup (.type T) "__getitem__" = pure (some (.builtin id)) ∧ s.TypeIs v T ∧ wpAny (model X.prog X.w) X.A (getItem v (.ref sl)) (EP X pins σ Q) X.xe s
theorem smax_ok : SlR X (smax X) := fun pins s σ H x v vl vu lo hi sl Q I rx hs pl pu h => h pins s σ v vl vu sl I rx hs pl pu
theorem smax_of {r : V → Option Int → Option Int → Hp → VK → Prop} (o : SlR X r) {x : V} {lo hi : Option Int} {H : Hp} {Q : VK} (h : r x lo hi H Q) : smax X x lo hi H Q := fun pins s σ v vl vu sl I rx hs pl pu => o pins s σ H x v vl vu lo hi sl Q I rx hs pl pu h
theorem sIx_eq (n d : Nat) (o : Option Int) : HT.sIx n d o = sIx n d o := by
  cases o <;> rfl
theorem RDs.cut {Zf : Addr → Prop} {H : Hp} {xs : List D} {vs : List V} (h : RDs K C Zf H xs vs) (lo hi : Option Int) : RDs K C Zf H (cutD xs lo hi) (cutV vs lo hi) := by
  unfold cutD cutV
  rw [← h.length, sIx_eq, sIx_eq]
  exact (h.drop _).take _
theorem cut_len {α : Type} (xs : List α) (lo hi : Option Int) : (cutD xs lo hi).length ≤ xs.length := by
  unfold cutD
  rw [List.length_take, List.length_drop]
  omega
variable {ea eb : Option Expr} {pl ph : CO} {p2 : Pos}
theorem SO.go {ea : Option Expr} {f : CO} (ha : SO C X ea f) (tk : Takes X U) (R : Rel X.K C P w) (E : RE X.K C w env σ) {γ δ : Type} {rel2 : Wd → γ → δ → Prop} {k : Option Int → S → RS γ} {Q2 : δ → Hp → Prop} (h : Out X.K C P U σ rel2 w ((f env w.s).bind k) Q2) {Q : Option Int → Hp → Prop}
    (q : ∀ w1 b, Step X.K C P w w1 → RE X.K C w1 env σ → Out X.K C P U σ rel2 w1 (k b w1.s) Q2 → Q b w1.H) : OX X ea σ w.H Q :=
  ha P U w env σ Q tk R E (Out.bind h fun w1 a v st ra h1 => by subst ra; exact q w1 a st (E.mono st) h1)
theorem SO.goL {ea : Option Expr} {f : CO} (ha : SO C X ea f) (tk : Takes X U) (R : Rel X.K C P w) (E : RE X.K C w env σ) {k : Option Int → S → RS (List D)} {Q2 : VK} (h : OutL X.K C P U σ w ((f env w.s).bind k) Q2) {Q : Option Int → Hp → Prop}
    (q : ∀ w1 b, Step X.K C P w w1 → RE X.K C w1 env σ → OutL X.K C P U σ w1 (k b w1.s) Q2 → Q b w1.H) : OX X ea σ w.H Q :=
  ha P U w env σ Q tk R E (OutL.bind h fun w1 a v st ra h1 => by subst ra; exact q w1 a st (E.mono st) h1)
theorem se_sl (ha : SE C X a fa) (hl : SO C X ea pl) (hh : SO C X eb ph) : SE C X (.Subscript a (.Slice ea eb none p2) pos) (cSl fa pl ph) := by
  intro P U w env σ Q tk R E h
  refine ex_of (pe_slice smax_ok pe_ex po_ox po_ox) ?_
  refine ha.go tk R E h fun w1 x v st ra E1 h1 => ?_
  refine hl.go tk st.rel E1 h1 fun w2 l st2 E2 h2 => ?_
  refine hh.go tk st2.rel E2 h2 fun w3 u st3 E3 h3 => ?_
  have ra3 := RW.mono (st2.trans st3) ra
  cases e1 : view x w3.s with
  | none => rw [e1] at h3; exact h3.elim
  | some d =>
    rw [e1] at h3
    have rv := view_rv st3.rel ra3 e1
    cases d with
    | tup xs =>
      obtain ⟨p, vs, rfl, g1, g2⟩ := rv_tup rv
      refine smax_of sl_tupA ⟨p, vs, rfl, g1.sq, fun hw => ?_, fun hw p' hp => ?_⟩
      · refine out_ok st3.rel h3 ?_
        have e : cutD xs l u = xs := by
          unfold cutD
          rw [← sIx_eq, ← sIx_eq, g2.length, hw.1, hw.2]
          simp [← g2.length]
        show RD _ _ _ _ (.tup (cutD xs l u)) _
        rw [e]
        simp only [RD]
        exact ⟨p, vs, rfl, g1, g2⟩
      · exact h3 { w3 with H := upd w3.H p' (.tup (cutV vs l u)) } rfl (step_new st3.rel hp _) (.ref p') (rd_tup st3.rel hp (g2.cut l u))
    | lst xs =>
      obtain ⟨p, vs, rfl, g1, g2⟩ := rv_lst rv
      exact smax_of sl_list ⟨p, vs, rfl, SqL.of g1, fun p' hp => h3 { w3 with H := upd w3.H p' (.lst (cutV vs l u)) } rfl (step_new st3.rel hp _) (.ref p') (rd_lst st3.rel hp (g2.cut l u))⟩
    | str s =>
      obtain ⟨rfl, hs⟩ := rv_str rv
      refine smax_of sl_str ⟨_, rfl, by rw [str_len, sizeLine_eq]; exact hs, ?_⟩
      have e : cutS ⟨s.toArray⟩ l u = ⟨(cutD s l u).toArray⟩ := by
        unfold cutD cutS
        rw [str_len, sIx_eq, sIx_eq]
      rw [e]
      exact out_ok st3.rel h3 (rw_str (Nat.le_trans (cut_len s l u) hs))
    | _ => exact h3.elim
theorem sn_sl (ha : SE C X a fa) (hl : SO C X ea pl) (hh : SO C X eb ph) : SN C X (.Subscript a (.Slice ea eb none p2) pos) (lSl fa pl ph) := by
  intro P U w env σ Q tk R E h
  refine ex_of (pe_slice smax_ok pe_ex po_ox po_ox) ?_
  refine ha.goL tk R E h fun w1 x v st ra E1 h1 => ?_
  refine hl.goL tk st.rel E1 h1 fun w2 l st2 E2 h2 => ?_
  refine hh.goL tk st2.rel E2 h2 fun w3 u st3 E3 h3 => ?_
  have ra3 := RW.mono (st2.trans st3) ra
  cases e1 : view x w3.s with
  | none => rw [e1] at h3; exact h3.elim
  | some d =>
    rw [e1] at h3
    have rv := view_rv st3.rel ra3 e1
    cases d with
    | lst xs =>
      obtain ⟨p, vs, rfl, g1, g2⟩ := rv_lst rv
      exact smax_of sl_list ⟨p, vs, rfl, SqL.of g1, outL_ok st3.rel h3 (g2.cut l u)⟩
    | _ => exact h3.elim
end
end Z
end

section
set_option Elab.async false
set_option linter.all false
set_option maxRecDepth 100000
set_option maxHeartbeats 4000000
/-! Attributes, built-ins, isinstance, calls. -/
namespace Z
open PySem PySem.Spec PyProof.Rows L2
/-- what is known of a class with slots -/
structure GC (K : PySem.W.Frag) (C : Cg) (c : Nat) : Prop where
  sc : SlX.SCls K (C.cl c)
  si : SlX.SIsi K (C.cl c)
/-- the attribute f: its slot by class -/
def GS (K : PySem.W.Frag) (C : Cg) (f : Str) (ix : Nat → Option Nat) : Prop := ∀ c i, ix c = some i → ∃ p, SlX.Slot1 K (C.cl c) f p i
section
variable {C : Cg} {X : Cx} {P : Pm} {w w1 w2 : Wd} {U : WX} {σ : L2.St} {env : Env} {e a b c o : Expr} {es : List Expr} {pos : Pos} {fa fb fc : CE} {K : PySem.W.Frag}
theorem rd_obj {c : Nat} {xs : List D} {v : V} {Zf : Addr → Prop} {H : Hp} (h : RD K C Zf H (.obj c xs) v) : ∃ a dx vs, v = .ref a ∧ C.kn c = true ∧ SlX.Slt H a (C.cl c) dx (vs.map some) ∧ RDs K C Zf H xs vs := by
  simp only [RD] at h
  obtain ⟨a, dx, vs, e, h0, h1, h2, h3, h4, h5⟩ := h
  exact ⟨a, dx, vs, e, h0, .inr ⟨h1, h2⟩, h5⟩
theorem se_fld {f : Str} {ix : Nat → Option Nat} (g : ∀ c, C.kn c = true → GC X.K C c) (s : GS X.K C f ix) (ha : SE C X e fa) (hb : attributeBase e f X.env (eval e X.env) = eval e X.env := by rfl) : SE C X (.Attribute e f pos) (cFld ix fa) := by
  intro P U w env σ Q tk R E h
  refine ex_of (SlX.pe_sl pe_ex hb) ?_
  refine ha.go tk R E h fun w1 x v st ra E1 h1 => ?_
  cases x with
  | d x =>
    cases x with
    | obj c xs =>
      obtain ⟨p, dx, vs, rfl, hk, hs, hv⟩ := rd_obj ra
      dsimp only at h1
      cases ei : ix c with
      | none => rw [ei] at h1; exact h1.elim
      | some i =>
        rw [ei] at h1
        dsimp only at h1
        cases ex : xs[i]? with
        | none => rw [ex] at h1; exact h1.elim
        | some y =>
          rw [ex] at h1
          obtain ⟨u, e1, r1⟩ := hv.get ex
          obtain ⟨sp, hsp⟩ := s c i ei
          exact ⟨p, C.cl c, dx, sp, vs.map some, i, u, rfl, hs, (g c hk).sc, hsp, by rw [List.getElem?_map, e1]; rfl, out_ok st.rel h1 (show RW X.K C w1 (.d y) u from r1)⟩
    | _ => exact h1.elim
  | ref j =>
    dsimp only at h1
    cases q : w1.s.get j with
    | none => rw [q] at h1; exact h1.elim
    | some ob =>
      rw [q] at h1
      cases ob with
      | ins c fs =>
        obtain ⟨vs, hk, hs, hne, _, hv⟩ := st.rel.obj j _ q
        dsimp only at h1
        cases ei : ix c with
        | none => rw [ei] at h1; exact h1.elim
        | some i =>
          rw [ei] at h1
          dsimp only at h1
          cases ex : fs[i]? with
          | none => rw [ex] at h1; exact h1.elim
          | some y =>
            cases y with
            | none => rw [ex] at h1; exact h1.elim
            | some y =>
              rw [ex] at h1
              obtain ⟨u, e1, r1⟩ := hv i y ex
              obtain ⟨sp, hsp⟩ := s c i ei
              rw [ra.2]
              exact ⟨_, C.cl c, (w1.m j).2, sp, vs, i, u, rfl, hs, (g c hk).sc, hsp, e1, out_ok st.rel h1 r1⟩
      | _ => exact h1.elim

/-! ### built-ins by their values -/
def cmax (X : Cx) (f : Value) : List V → Hp → VK → Prop := fun vs H Q => ∀ (pins : List (Addr × Obj)) (s : Shared) (σ : L2.St) (us : List Value), Inv X pins σ H s → Vals vs us → wpAny (model X.prog X.w) X.A (call f us) (EP X pins σ Q) X.xe s
theorem cmax_ok {f : Value} : CallR X f (cmax X f) := fun pins s σ H xs us Q I r h => h pins s σ us I r
theorem cmax_of {f : Value} {r : List V → Hp → VK → Prop} (o : CallR X f r) {vs : List V} {H : Hp} {Q : VK} (h : r vs H Q) : cmax X f vs H Q := fun pins s σ us I rv => o pins s σ H vs us Q I rv h
def BiOk (C : Cg) (X : Cx) (f : Value) (k : Bi) : Prop := ∀ (P : Pm) (w : Wd) (xs : List D) (z : D) (vs : List V) (Q : VK), Rel X.K C P w → Paired (RV X.K C w) xs vs → k xs = some z →
  (∀ w' r, w'.s = w.s → Step X.K C P w w' → RD X.K C w'.Zf w'.H z r → Q r w'.H) → cmax X f vs w.H Q
theorem bi_core {f : Value} {k : Bi} {g : CA} (b : BiOk C X f k) (ha : SA C X es g) (tk : Takes X U) (R : Rel X.K C P w) (E : RE X.K C w env σ) {Q : VK} (h : Out X.K C P U σ (RW X.K C) w (cBi k g env w.s) Q) : tCB (cmax X f) (AX X es) σ w.H Q := by
  refine ha.go tk R E h fun w1 ws vs st rs E1 h1 => ?_
  cases e1 : viewAll ws w1.s with
  | none => rw [e1] at h1; exact h1.elim
  | some xs =>
    rw [e1] at h1
    dsimp only at h1
    cases e2 : k xs with
    | none => rw [e2] at h1; exact h1.elim
    | some z =>
      rw [e2] at h1
      exact b P w1 xs z vs Q st.rel (viewAll_v st.rel rs e1) e2 fun w' r es st' hr => h1 w' es st' r hr
theorem se_bi {x : Str} {id : String} {p : Pos} {k : Bi} {g : CA} (b : BiOk C X (.builtin id) k) (hm : X.mg x = none) (hv : bootBuiltins x = some (.builtin id)) (ha : SA C X (e :: es) g) (hg : Gl X x := by rfl) (hn : x ≠ "__name__" := by decide) (hdb : (x == ("__debug__" : Str)) = false := by decide)
    (he : starEach (e :: es) X.env = (false, eval e X.env) :: starEach es X.env := by rfl) (hpl : (backTo pos (starEach es X.env)).any (·.1) = false := by rfl) : SE C X (.Call (.Name x p) (e :: es) [] pos) (cBi k g) :=
  fun P U w env σ Q tk R E h => ex_of (pe_callB cmax_ok hg hm hv pa_ax hn hdb he hpl) (bi_core b ha tk R E h)
theorem se_ty {x : Str} {T : String} {p : Pos} {k : Bi} {g : CA} (b : BiOk C X (.type T) k) (hm : X.mg x = none) (hv : bootBuiltins x = some (.type T)) (ha : SA C X (e :: es) g) (hg : Gl X x := by rfl) (hn : x ≠ "__name__" := by decide) (hdb : (x == ("__debug__" : Str)) = false := by decide)
    (he : starEach (e :: es) X.env = (false, eval e X.env) :: starEach es X.env := by rfl) (hpl : (backTo pos (starEach es X.env)).any (·.1) = false := by rfl) : SE C X (.Call (.Name x p) (e :: es) [] pos) (cBi k g) :=
  fun P U w env σ Q tk R E h => ex_of (pe_callTy cmax_ok hg hm hv pa_ax hn hdb he hpl) (bi_core b ha tk R E h)
theorem paired1 {α β : Type} {F : α → β → Prop} {x : α} {vs : List β} (h : Paired F [x] vs) : ∃ v, vs = [v] ∧ F x v := by
  cases h with
  | cons r t => cases t; exact ⟨_, rfl, r⟩
theorem paired2 {α β : Type} {F : α → β → Prop} {x y : α} {vs : List β} (h : Paired F [x, y] vs) : ∃ v u, vs = [v, u] ∧ F x v ∧ F y u := by
  cases h with
  | cons r t =>
    cases t with
    | cons r' t =>
      cases t
      exact ⟨_, _, rfl, r, r'⟩
theorem bi_len : BiOk C X (.builtin "len") bLen := by
  intro P w xs z vs Q R h e q
  unfold bLen at e
  split at e
  · cases e
    obtain ⟨v, rfl, r⟩ := paired1 h
    obtain ⟨rfl, hl⟩ := rv_str r
    refine cmax_of call_len ⟨_, _, rfl, ⟨by rw [str_len, sizeLine_eq]; exact hl, rfl⟩, ?_⟩
    rw [str_len]
    exact op_end R rd_int q
  · cases e
    obtain ⟨v, rfl, r⟩ := paired1 h
    obtain ⟨p, vs, rfl, h1, h2⟩ := rv_lst r
    refine cmax_of call_len ⟨_, _, rfl, .inl ⟨vs, SqL.of h1, rfl⟩, ?_⟩
    rw [← h2.length]
    exact op_end R rd_int q
  · cases e
    obtain ⟨v, rfl, r⟩ := paired1 h
    obtain ⟨p, vs, rfl, h1, h2⟩ := rv_tup r
    refine cmax_of call_len ⟨_, _, rfl, .inr ⟨vs, h1.sq, rfl⟩, ?_⟩
    rw [← h2.length]
    exact op_end R rd_int q
  · cases e
    obtain ⟨v, rfl, r⟩ := paired1 h
    have r2 : RD X.K C w.Zf w.H _ v := r
    simp only [RD] at r2
    obtain ⟨p, rfl, h1⟩ := r2
    refine cmax_of call_len ⟨_, _, rfl, .inl ⟨_, h1.sq, rfl⟩, ?_⟩
    rw [List.length_map]
    exact op_end R rd_int q
  · cases e
    obtain ⟨v, rfl, r⟩ := paired1 h
    obtain ⟨p, vs, rfl, h1, h2, h3⟩ := rv_dic r
    refine cmax_of call_lenD ⟨p, _, rfl, h1, ?_⟩
    rw [List.length_zip, List.length_map, ← h2, Nat.min_self]
    exact op_end R rd_int q
  · cases e
theorem bi_abs : BiOk C X (.builtin "abs") bAbs := by
  intro P w xs z vs Q R h e q
  unfold bAbs at e
  split at e
  · cases e
    obtain ⟨v, rfl, r⟩ := paired1 h
    obtain rfl := rv_int r
    exact cmax_of call_abs ⟨_, rfl, op_end R rd_int q⟩
  · cases e
theorem bi_int : BiOk C X (.type "int") bInt := by
  intro P w xs z vs Q R h e q
  unfold bInt at e
  split at e
  · cases e
    obtain ⟨v, rfl, r⟩ := paired1 h
    obtain rfl := rv_int r
    exact cmax_of call_int1 (.inl ⟨_, rfl, op_end R rd_int q⟩)
  · cases e
    obtain ⟨v, rfl, r⟩ := paired1 h
    obtain rfl := rv_bl r
    exact cmax_of call_int1 (.inr ⟨_, rfl, op_end R rd_int q⟩)
  · cases e
theorem bi_max2 (hc : X.calm = true) : BiOk C X (.builtin "max") bMax2 := by
  intro P w xs z vs Q R h e q
  unfold bMax2 at e
  split at e
  · cases e
    obtain ⟨v, u, rfl, r1, r2⟩ := paired2 h
    obtain rfl := rv_int r1
    obtain rfl := rv_int r2
    exact cmax_of (call_max2 hc) ⟨_, _, rfl, op_end R rd_int q⟩
  · cases e
theorem bi_min2 (hc : X.calm = true) : BiOk C X (.builtin "min") bMin2 := by
  intro P w xs z vs Q R h e q
  unfold bMin2 at e
  split at e
  · cases e
    obtain ⟨v, u, rfl, r1, r2⟩ := paired2 h
    obtain rfl := rv_int r1
    obtain rfl := rv_int r2
    exact cmax_of (call_min2 hc) ⟨_, _, rfl, op_end R rd_int q⟩
  · cases e
theorem bi_divmod : BiOk C X (.builtin "divmod") bDivmod := by
  intro P w xs z vs Q R h e q
  unfold bDivmod at e
  split at e
  · split at e
    · rename_i hh
      simp only [Bool.and_eq_true, decide_eq_true_eq] at hh
      cases e
      obtain ⟨v, u, rfl, r1, r2⟩ := paired2 h
      obtain rfl := rv_int r1
      obtain rfl := rv_int r2
      exact cmax_of call_divmod ⟨_, _, rfl, hh, op_tup R (.cons rd_int (.cons rd_int .nil)) q⟩
    · cases e
  · cases e
theorem bi_tuple : BiOk C X (.type "tuple") bTuple := by
  intro P w xs z vs Q R h e q
  unfold bTuple at e
  split at e
  · cases e
    obtain ⟨v, rfl, r⟩ := paired1 h
    obtain ⟨p, vs, rfl, h1, h2⟩ := rv_lst r
    exact cmax_of call_tuple_of ⟨p, vs, rfl, .inl ⟨SqL.of h1, op_tup R h2 q⟩⟩
  · cases e
    obtain ⟨v, rfl, r⟩ := paired1 h
    obtain ⟨p, vs, rfl, h1, h2⟩ := rv_tup r
    refine cmax_of call_tuple_of ⟨p, vs, rfl, .inr ⟨h1.sq, op_end R ?_ q⟩⟩
    simp only [RD]
    exact ⟨p, vs, rfl, h1, h2⟩
  · cases e
theorem boolsOf_v : ∀ {xs : List D} {vs : List V} {bs : List Bool} {Zf : Addr → Prop} {H : Hp}, boolsOf xs = some bs → RDs K C Zf H xs vs → vs = bs.map V.bl
  | [], vs, ns, _, _, e, h => by
    simp only [RDs] at h
    cases e
    rw [h] <;> rfl
  | x :: xs, vs, ns, _, _, e, h => by
    simp only [RDs] at h
    obtain ⟨v, r, rfl, h1, h2⟩ := h
    cases x with
    | bl i =>
      unfold boolsOf at e
      cases q : boolsOf xs with
      | none => rw [q] at e; cases e
      | some ms =>
        rw [q] at e
        cases e
        simp only [RD] at h1
        rw [h1, boolsOf_v q h2] <;> rfl
    | _ => cases e
/-- the truth of values -/
def TB (xs : List V) (bs : List Bool) : Prop := xs.length = bs.length ∧ ∀ (i : Nat) (v : V), xs[i]? = some v → ∃ b, bs[i]? = some b ∧ (v = .bl b ∨ ∃ n : Int, v = .int n ∧ b = (n != 0))
theorem truths_v : ∀ {xs : List D} {vs : List V} {bs : List Bool} {Zf : Addr → Prop} {H : Hp}, truths xs = some bs → RDs K C Zf H xs vs → TB vs bs
  | [], vs, bs, Zf, H, e, h => by
    simp only [RDs] at h
    cases e
    subst h
    exact ⟨rfl, fun i v h => by simp at h⟩
  | x :: xs, vs, bs, Zf, H, e, h => by
    simp only [RDs] at h
    obtain ⟨v, r, rfl, h1, h2⟩ := h
    have cons : ∀ {b bs'}, TB r bs' → (v = .bl b ∨ ∃ n : Int, v = .int n ∧ b = (n != 0)) → TB (v :: r) (b :: bs') := fun {b bs'} ⟨q1, q2⟩ q3 => ⟨by simp [q1], fun i u hu => by
      cases i with
      | zero =>
        obtain rfl : v = u := by simpa using hu
        exact ⟨b, rfl, q3⟩
      | succ i => exact q2 i u (by simpa using hu)⟩
    cases x with
    | bl b =>
      unfold truths at e
      cases q : truths xs with
      | none => rw [q] at e; cases e
      | some bs' =>
        rw [q] at e
        cases e
        simp only [RD] at h1
        exact cons (truths_v q h2) (.inl h1)
    | int n =>
      unfold truths at e
      cases q : truths xs with
      | none => rw [q] at e; cases e
      | some bs' =>
        rw [q] at e
        cases e
        simp only [RD] at h1
        exact cons (truths_v q h2) (.inr ⟨n, h1, rfl⟩)
    | _ => cases e
theorem truth_tb {prog : Program} {w : World} {A : Around} {xs : List V} {bs : List Bool} {its : List Value} (r : Vals xs its) (t : TB xs bs) :
    TruthOf prog w A (fun i v => its.toArray[i]? = some v) (fun i => bs.getD i false) := fun i v s Q E hv hq => by
  have hv' : its[i]? = some v := by simpa using hv
  have hlt : i < xs.length := by
    rw [r.length]
    exact (List.getElem?_eq_some_iff.mp hv').1
  obtain ⟨u, hu, ru⟩ := r.get (List.getElem?_eq_getElem hlt)
  rw [hv'] at hu
  cases hu
  obtain ⟨b, hb, hx⟩ := t.2 i _ (List.getElem?_eq_getElem hlt)
  have hg : bs.getD i false = b := by rw [List.getD_eq_getElem?_getD, hb] <;> rfl
  have hq' : Q (bs.getD i false) s := hq
  rw [hg] at hq'
  rcases hx with hx | ⟨n, hx, rfl⟩
  · rw [hx] at ru
    cases (show v = .bool b from ru)
    exact wpAny_truthy_bool hq'
  · rw [hx] at ru
    obtain ⟨tk, rfl⟩ := (show ∃ t, v = .int n t from ru)
    exact PySem.P.truthy_int hq'
theorem cr_anyT (hc : X.calm = true) : CallR X (.builtin "any") (fun vs H Q => ∃ (a : Addr) (xs : List V) (bs : List Bool), vs = [V.ref a] ∧ SqL X.K H a xs ∧ TB xs bs ∧ Q (.bl (bs.any id)) H) := by
  intro pins s σ H vs us Q I r h
  obtain ⟨a, xs, bs, rfl, hs, tb, q⟩ := h
  obtain ⟨its, rv, hl, _⟩ := I.list hs
  rw [Vals.ref1 r]
  refine call_any_walk (iter_any hl.isList fun s₂ e2 st hne => ?_)
  subst e2
  refine ⟨_, _, _, _, _, _, _, rfl, Walks.list (A := X.A.in1) (I.ok.hd hc) _ a hne its.toArray, st, truth_tb rv tb, fun h' tk hk => ?_⟩
  refine ⟨.bl _, H, I.kept fun b o eo => hk b o (fun hmem => ?_) (Heap.get?_push_of_some _ eo), ?_, q⟩
  · rcases List.mem_cons.mp hmem with e1 | hmem
    · exact absurd (e1 ▸ Heap.lt_size eo) (Nat.lt_irrefl _)
    · cases hmem
  · show Value.bool _ = Value.bool _
    rw [← L2.any_range, List.size_toArray, ← rv.length, tb.1]
theorem cr_allT (hc : X.calm = true) : CallR X (.builtin "all") (fun vs H Q => ∃ (a : Addr) (xs : List V) (bs : List Bool), vs = [V.ref a] ∧ SqL X.K H a xs ∧ TB xs bs ∧ Q (.bl (bs.all id)) H) := by
  intro pins s σ H vs us Q I r h
  obtain ⟨a, xs, bs, rfl, hs, tb, q⟩ := h
  obtain ⟨its, rv, hl, _⟩ := I.list hs
  rw [Vals.ref1 r]
  refine call_all_walk (iter_any hl.isList fun s₂ e2 st hne => ?_)
  subst e2
  refine ⟨_, _, _, _, _, _, _, rfl, Walks.list (A := X.A.in1) (I.ok.hd hc) _ a hne its.toArray, st, truth_tb rv tb, fun h' tk hk => ?_⟩
  refine ⟨.bl _, H, I.kept fun b o eo => hk b o (fun hmem => ?_) (Heap.get?_push_of_some _ eo), ?_, q⟩
  · rcases List.mem_cons.mp hmem with e1 | hmem
    · exact absurd (e1 ▸ Heap.lt_size eo) (Nat.lt_irrefl _)
    · cases hmem
  · show Value.bool _ = Value.bool _
    rw [← L2.all_range, List.size_toArray, ← rv.length, tb.1]
theorem bi_all (hc : X.calm = true) : BiOk C X (.builtin "all") bAll := by
  intro P w xs z vs Q R h e q
  unfold bAll at e
  split at e
  · split at e
    · rename_i bs eb
      cases e
      obtain ⟨v, rfl, r⟩ := paired1 h
      obtain ⟨p, vs, rfl, h1, h2⟩ := rv_lst r
      exact cmax_of (cr_allT hc) ⟨p, vs, bs, rfl, SqL.of h1, truths_v eb h2, op_end R rd_bl q⟩
    · cases e
  · cases e
theorem bi_any (hc : X.calm = true) : BiOk C X (.builtin "any") bAny := by
  intro P w xs z vs Q R h e q
  unfold bAny at e
  split at e
  · split at e
    · rename_i bs eb
      cases e
      obtain ⟨v, rfl, r⟩ := paired1 h
      obtain ⟨p, vs, rfl, h1, h2⟩ := rv_lst r
      exact cmax_of (cr_anyT hc) ⟨p, vs, bs, rfl, SqL.of h1, truths_v eb h2, op_end R rd_bl q⟩
    · cases e
  · cases e
theorem sumI_eq : ∀ ns : List Int, ns.sum = sumI ns
  | [] => rfl
  | n :: r => by rw [List.sum_cons, sumI, sumI_eq r]
theorem bi_sum (hc : X.calm = true) : BiOk C X (.builtin "sum") bSum := by
  intro P w xs z vs Q R h e q
  unfold bSum at e
  split at e
  · rename_i ys
    cases eb : intsOf ys with
    | none => rw [eb] at e; cases e
    | some ns =>
      rw [eb] at e
      cases e
      obtain ⟨v, rfl, r⟩ := paired1 h
      obtain ⟨p, vs, rfl, h1, h2⟩ := rv_lst r
      obtain rfl := intsOf_v eb h2
      refine cmax_of (cr_sum hc) ⟨p, ns, rfl, SqL.of h1, ?_⟩
      rw [sumI_eq]
      exact op_end R rd_int q
  · cases e
theorem maxI_of : ∀ {ns : List Int} {m k : Int}, maxI ns = some k → m ∈ ns → (∀ y, y ∈ ns → y ≤ m) → m = k
  | [], _, _, e, _, _ => by cases e
  | [n], m, k, e, hm, _ => by
    cases e
    simpa using hm
  | n :: n2 :: r, m, k, e, hm, hle => by
    have ek : ∀ k', maxI (n2 :: r) = some k' → (∀ y, y ∈ n2 :: r → y ≤ k') ∧ k' ∈ n2 :: r := by
      have key : ∀ (l : List Int) (k' : Int), maxI l = some k' → (∀ y, y ∈ l → y ≤ k') ∧ k' ∈ l := by
        intro l
        induction l with
        | nil => intro k' e; cases e
        | cons a l ih =>
          intro k' e
          cases l with
          | nil =>
            cases e
            exact ⟨fun y hy => by have : y = a := by simpa using hy
                                  omega, by simp⟩
          | cons b l =>
            unfold maxI at e
            cases q : maxI (b :: l) with
            | none => rw [q] at e; cases e
            | some t =>
              rw [q] at e
              obtain ⟨h1, h2⟩ := ih t q
              dsimp only at e
              split at e
              · cases e
                exact ⟨fun y hy => by
                  rcases List.mem_cons.mp hy with z | z
                  · omega
                  · exact h1 y z, List.mem_cons_of_mem _ h2⟩
              · cases e
                exact ⟨fun y hy => by
                  rcases List.mem_cons.mp hy with z | z
                  · omega
                  · have := h1 y z
                    omega, List.mem_cons_self⟩
      exact fun k' q => key _ k' q
    unfold maxI at e
    cases q : maxI (n2 :: r) with
    | none => rw [q] at e; cases e
    | some t =>
      rw [q] at e
      obtain ⟨h1, h2⟩ := ek t q
      have a1 := hle n List.mem_cons_self
      have a2 := hle t (List.mem_cons_of_mem _ h2)
      dsimp only at e
      split at e
      · cases e
        rcases List.mem_cons.mp hm with z | z
        · omega
        · have := h1 m z
          omega
      · cases e
        rcases List.mem_cons.mp hm with z | z
        · omega
        · have := h1 m z
          omega
theorem maxI_pos {ns : List Int} {k : Int} (e : maxI ns = some k) : 0 < ns.length := by
  cases ns with
  | nil => cases e
  | cons _ _ => simp
theorem bi_max1 (hc : X.calm = true) : BiOk C X (.builtin "max") bMax1 := by
  intro P w xs z vs Q R h e q
  unfold bMax1 at e
  split at e
  · rename_i ys
    cases eb : intsOf ys with
    | none => rw [eb] at e; cases e
    | some ns =>
      rw [eb] at e
      dsimp only at e
      cases em : maxI ns with
      | none => rw [em] at e; cases e
      | some k =>
        rw [em] at e
        cases e
        obtain ⟨v, rfl, r⟩ := paired1 h
        obtain ⟨p, vs, rfl, h1, h2⟩ := rv_lst r
        obtain rfl := intsOf_v eb h2
        refine cmax_of (cr_max hc) ⟨p, ns, rfl, SqL.of h1, maxI_pos em, fun m hm hle => ?_⟩
        obtain rfl := maxI_of em hm hle
        exact op_end R rd_int q
  · cases e
/-! ### isinstance -/
/-- u is the class that t stands for -/
structure IsF (K : PySem.W.Frag) (C : Cg) (t : Ty) (u : Value) : Prop where
  non : ∀ b, isInst t .non = some b → PySem.W.kitOne K (.type "NoneType") u = some b
  bl : ∀ x b, isInst t (.bl x) = some b → PySem.W.kitOne K (.type "bool") u = some b
  int : ∀ x b, isInst t (.int x) = some b → PySem.W.kitOne K (.type "int") u = some b
  str : ∀ x b, isInst t (.str x) = some b → PySem.W.kitOne K (.type "str") u = some b
  tup : ∀ x b, isInst t (.tup x) = some b → PySem.W.kitOne K (.type "tuple") u = some b
  lst : ∀ x b, isInst t (.lst x) = some b → PySem.W.kitOne K (.type "list") u = some b
  dic : ∀ x y b, isInst t (.dic x y) = some b → PySem.W.kitOne K (.type "dict") u = some b
  obj : ∀ c x b, C.kn c = true → isInst t (.obj c x) = some b → PySem.W.kitOne K (.ref (C.cl c)) u = some b
theorem zt_ty {Zf : Addr → Prop} {H : Hp} {a : Addr} {vs : List V} (h : ZT K Zf H a vs) : TyX K H (.ref a) (.type "tuple") := by
  rcases h with ⟨h, _⟩ | ⟨o, its, n, h1, h2, _⟩
  · rcases h with h | ⟨o, h⟩
    · exact .base (.tup h)
    · exact .fTuple h
  · exact .kTuple h1 h2
theorem is_ok {t : Ty} {u : Value} {c : V} {x : D} {v : V} {b : Bool} {Q : VK} (F : IsF X.K C t u) (g : ∀ c, C.kn c = true → GC X.K C c) (hc : ClsV c u) (h : RV X.K C w x v) (e : isInst t x = some b) (q : Q (.bl b) w.H) : cmax X (.builtin "isinstance") [v, c] w.H Q := by
  have base : ∀ {tn : Value}, TyX X.K w.H v tn → PySem.W.kitOne X.K tn u = some b → cmax X (.builtin "isinstance") [v, c] w.H Q := fun ty k => cmax_of call_isi ⟨v, c, _, u, b, rfl, hc, ty, k, q⟩
  cases x with
  | non =>
    obtain rfl := rv_non h
    exact base (.base .non) (F.non _ e)
  | bl x =>
    obtain rfl := rv_bl h
    exact base (.base (.bl _)) (F.bl _ _ e)
  | int x =>
    obtain rfl := rv_int h
    exact base (.base (.int _)) (F.int _ _ e)
  | str x =>
    obtain ⟨rfl, _⟩ := rv_str h
    exact base (.base (.str _)) (F.str _ _ e)
  | tup x =>
    obtain ⟨p, vs, rfl, h1, h2⟩ := rv_tup h
    exact base (zt_ty h1) (F.tup _ _ e)
  | lst x =>
    obtain ⟨p, vs, rfl, h1, h2⟩ := rv_lst h
    exact base (.base (.lst h1)) (F.lst _ _ e)
  | dic x y =>
    obtain ⟨p, vs, rfl, h1, h2⟩ := rv_dic h
    exact base (.base (.dK h1)) (F.dic _ _ _ e)
  | lck x => cases t <;> cases e
  | obj c' xs =>
    obtain ⟨p, dx, vs, rfl, hk, hs, hv⟩ := rd_obj (show RD X.K C w.Zf w.H (.obj c' xs) v from h)
    refine cmax_of (SlX.call_isiSl u) ⟨p, C.cl c', dx, _, c, b, rfl, ?_, fun w' r => hc.eq r, hs, (g c' hk).sc, (g c' hk).si, F.obj _ _ _ hk e, q⟩
    cases hc <;> exact rfl
theorem se_is {t : Ty} {u : Value} {c : V} {T : Expr} {p : Pos} (F : IsF X.K C t u) (g : ∀ c, C.kn c = true → GC X.K C c) (hT : PE X T (tC c)) (hc : ClsV c u) (ha : SE C X a fa) (hm : X.mg "isinstance" = none) (hg : Gl X "isinstance" := by rfl)
    (he : starEach (a :: [T]) X.env = (false, eval a X.env) :: starEach [T] X.env := by rfl) (he2 : starEach (T :: []) X.env = (false, eval T X.env) :: starEach [] X.env := by rfl) (hpl : (backTo pos (starEach [T] X.env)).any (·.1) = false := by rfl) :
    SE C X (.Call (.Name "isinstance" p) [a, T] [] pos) (cIs t fa) := by
  intro P U w env σ Q tk R E h
  refine ex_of (pe_callB (id := "isinstance") cmax_ok hg hm (by decide +kernel) (pa_cons pe_ex (pa_cons hT pa_nil he2) he) (by decide) (by decide) he hpl) ?_
  refine ha.go tk R E h fun w1 x v st ra E1 h1 => ?_
  cases e1 : view x w1.s with
  | none => rw [e1] at h1; exact h1.elim
  | some d =>
    rw [e1] at h1
    dsimp only at h1
    cases e2 : isInst t d with
    | none => rw [e2] at h1; exact h1.elim
    | some b =>
      rw [e2] at h1
      exact is_ok F g hc (view_rv st.rel ra e1) e2 (out_ok st.rel h1 rw_bl)
end
end Z
end

section
set_option Elab.async false
set_option linter.all false
set_option maxRecDepth 100000
set_option maxHeartbeats 4000000
/-! Statements. -/
namespace Z
open PySem PySem.Spec PyProof.Rows L2

/-- what is wanted behind a statement's result -/
def OutF (K : PySem.W.Frag) (C : Cg) (P : Pm) (U : WX) (w : Wd) (r : RF) (D : Ends) : Prop := match r with
  | .nx e s => ∀ w', w'.s = s → Step K C P w w' → ∀ σ, RE K C w' e σ → D.nx σ w'.H
  | .brk e s => ∀ w', w'.s = s → Step K C P w w' → ∀ σ, RE K C w' e σ → D.bk σ w'.H
  | .cnt e s => ∀ w', w'.s = s → Step K C P w w' → ∀ σ, RE K C w' e σ → D.ct σ w'.H
  | .ret a s => ∀ w', w'.s = s → Step K C P w w' → ∀ v, RW K C w' a v → D.rt v w'.H
  | .exc x e s => ∀ w', w'.s = s → Step K C P w w' → ∀ c o, XR K C w' x c o → ∀ σ, RE K C w' e σ → U c o σ w'.H
  | .bad => False
section
variable {K : PySem.W.Frag} {C : Cg} {P : Pm} {w w1 : Wd} {U : WX} {D : Ends} {env : Env} {σ : L2.St}
theorem OutF.mono {r : RF} (t : Step K C P w w1) (h : OutF K C P U w r D) : OutF K C P U w1 r D := by
  cases r with
  | nx e s => exact fun w' e st v q => h w' e (t.trans st) v q
  | brk e s => exact fun w' e st v q => h w' e (t.trans st) v q
  | cnt e s => exact fun w' e st v q => h w' e (t.trans st) v q
  | ret e s => exact fun w' e st v q => h w' e (t.trans st) v q
  | exc x e s => exact fun w' e st c o q => h w' e (t.trans st) c o q
  | bad => exact h
/-- an expression within a statement -/
theorem OutF.of {α β : Type} {rel : Wd → α → β → Prop} {r : RS α} {k : α → S → RF} (E : RE K C w env σ) (h : OutF K C P U w (r.toF env k) D) {Q1 : β → Hp → Prop}
    (q : ∀ w1 a v, Step K C P w w1 → rel w1 a v → RE K C w1 env σ → OutF K C P U w1 (k a w1.s) D → Q1 v w1.H) : Out K C P U σ rel w r Q1 := by
  cases r with
  | ok a s =>
    intro w1 e st v ra
    subst e
    exact q w1 a v st ra (E.mono st) (OutF.mono st h)
  | exc x s => exact fun w' e st c o xr => h w' e st c o xr σ (E.mono st)
  | bad => exact h
/-- other ends -/
theorem OutF.ends {D' : Ends} {r r' : RF} (h : OutF K C P U w r D)
    (hr : match r', r with
      | .nx e s, _ => ∀ w', w'.s = s → Step K C P w w' → ∀ σ, RE K C w' e σ → OutF K C P U w r D → D'.nx σ w'.H
      | .brk e s, _ => ∀ w', w'.s = s → Step K C P w w' → ∀ σ, RE K C w' e σ → OutF K C P U w r D → D'.bk σ w'.H
      | .cnt e s, _ => ∀ w', w'.s = s → Step K C P w w' → ∀ σ, RE K C w' e σ → OutF K C P U w r D → D'.ct σ w'.H
      | .ret a s, _ => ∀ w', w'.s = s → Step K C P w w' → ∀ v, RW K C w' a v → OutF K C P U w r D → D'.rt v w'.H
      | .exc x e s, r => r = .exc x e s
      | .bad, r => r = .bad) : OutF K C P U w r' D' := by
  cases r' with
  | nx e s => exact fun w' e st v q => hr w' e st v q h
  | brk e s => exact fun w' e st v q => hr w' e st v q h
  | cnt e s => exact fun w' e st v q => hr w' e st v q h
  | ret e s => exact fun w' e st v q => hr w' e st v q h
  | exc x e s =>
    have hr' : r = .exc x e s := hr
    subst hr'
    exact h
  | bad =>
    have hr' : r = .bad := hr
    subst hr'
    exact h
end
/-- all that may be read off a statement -/
def SX (X : Cx) (st : Stmt) : TS := fun D σ H => ∀ (pins : List (Addr × Obj)) (s : Shared), Inv X pins σ H s → wpAny (model X.prog X.w) X.A (exec st X.env) (SP X pins D) X.xe s
theorem ps_sx {X : Cx} {st : Stmt} : PS X st (SX X st) := ⟨fun pins s σ H D I h => h pins s I⟩
theorem sx_of {X : Cx} {st : Stmt} {t : TS} {D : Ends} {σ : L2.St} {H : Hp} (h : PS X st t) (q : t D σ H) : SX X st D σ H := fun pins s I => h.run pins s σ H D I q
def SXs (X : Cx) (st : List Stmt) : TS := fun D σ H => ∀ (pins : List (Addr × Obj)) (s : Shared), Inv X pins σ H s → wpAny (model X.prog X.w) X.A (execs st X.env) (SP X pins D) X.xe s
theorem pss_sx {X : Cx} {st : List Stmt} : PSs X st (SXs X st) := ⟨fun pins s σ H D I h => h pins s I⟩
theorem sxs_of {X : Cx} {st : List Stmt} {t : TS} {D : Ends} {σ : L2.St} {H : Hp} (h : PSs X st t) (q : t D σ H) : SXs X st D σ H := fun pins s I => h.run pins s σ H D I q
/-- a statement, a row of them is simulated -/
def SS (C : Cg) (X : Cx) (st : Stmt) (f : CS) : Prop := ∀ (P : Pm) (U : WX) (w : Wd) (env : Env) (σ : L2.St) (D : Ends), Takes X U → Rel X.K C P w → RE X.K C w env σ → OutF X.K C P U w (f env w.s) D → SX X st D σ w.H
def SSs (C : Cg) (X : Cx) (st : List Stmt) (f : CS) : Prop := ∀ (P : Pm) (U : WX) (w : Wd) (env : Env) (σ : L2.St) (D : Ends), Takes X U → Rel X.K C P w → RE X.K C w env σ → OutF X.K C P U w (f env w.s) D → SXs X st D σ w.H
/-- targets -/
def GX (X : Cx) (tg : Expr) : L2.TG := fun v σ H Q => ∀ (pins : List (Addr × Obj)) (s : Shared) (u : Value), Inv X pins σ H s → RelV v u → wpAny (model X.prog X.w) X.A (assign tg X.env u) (fun _ s' => ∃ σ' H', Inv X pins σ' H' s' ∧ Q σ' H') X.xe s
theorem pg_gx {X : Cx} {tg : Expr} : PG X tg (GX X tg) := ⟨fun pins s σ H v u Q I r h => h pins s u I r⟩
theorem gx_of {X : Cx} {tg : Expr} {g : L2.TG} {v : V} {σ : L2.St} {H : Hp} {Q : L2.St → Hp → Prop} (h : PG X tg g) (q : g v σ H Q) : GX X tg v σ H Q := fun pins s u I r => h.run pins s σ H v u Q I r q
/-- only these slots are set -/
def Off (ts : List Nat) (σ σ1 : L2.St) : Prop := σ1.length = σ.length ∧ ∀ i, i ∉ ts → σ1[i]? = σ[i]?
theorem Off.refl {ts : List Nat} {σ : L2.St} : Off ts σ σ := ⟨rfl, fun _ _ => rfl⟩
theorem Off.trans {t1 t2 : List Nat} {σ σ1 σ2 : L2.St} (a : Off t1 σ σ1) (b : Off t2 σ1 σ2) : Off (t1 ++ t2) σ σ2 :=
  ⟨b.1.trans a.1, fun i h => (b.2 i fun q => h (List.mem_append_right _ q)).trans (a.2 i fun q => h (List.mem_append_left _ q))⟩
/-- .. that raises nothing -/
structure SG (C : Cg) (X : Cx) (tg : Expr) (g : TG) (ts : List Nat) : Prop where
  nox : ∀ x e s y s', g x e s ≠ .exc y s'
  run : ∀ (P : Pm) (U : WX) (w : Wd) (env : Env) (σ : L2.St) (x : W) (v : V) (Q : L2.St → Hp → Prop), Takes X U → Rel X.K C P w → RE X.K C w env σ → RW X.K C w x v → Out X.K C P U σ (fun w e σ1 => RE X.K C w e σ1 ∧ Off ts σ σ1) w (g x env w.s) Q → GX X tg v σ w.H Q
def GXs (X : Cx) (ts : List Expr) : L2.TGs := fun vs σ H Q => ∀ (pins : List (Addr × Obj)) (s : Shared) (us : List Value), Inv X pins σ H s → Vals vs us → wpAny (model X.prog X.w) X.A (assignInOrder ((assignEach ts X.env).map (·.2)) us) (fun _ s' => ∃ σ' H', Inv X pins σ' H' s' ∧ Q σ' H') X.xe s
theorem pgs_gx {X : Cx} {ts : List Expr} : PGs X ts (GXs X ts) := ⟨fun pins s σ H vs us Q I r h => h pins s us I r⟩
theorem gxs_of {X : Cx} {ts : List Expr} {g : L2.TGs} {vs : List V} {σ : L2.St} {H : Hp} {Q : L2.St → Hp → Prop} (h : PGs X ts g) (q : g vs σ H Q) : GXs X ts vs σ H Q := fun pins s us I r => h.run pins s σ H vs us Q I r q
structure SGs (C : Cg) (X : Cx) (ts : List Expr) (gs : List TG) (sl : List Nat) : Prop where
  nox : ∀ xs e s y s', gEach gs xs e s ≠ .exc y s'
  run : ∀ (P : Pm) (U : WX) (w : Wd) (env : Env) (σ : L2.St) (xs : List D) (vs : List V) (Q : L2.St → Hp → Prop), Takes X U → Rel X.K C P w → RE X.K C w env σ → RDs X.K C w.Zf w.H xs vs → Out X.K C P U σ (fun w e σ1 => RE X.K C w e σ1 ∧ Off sl σ σ1) w (gEach gs xs env w.s) Q → GXs X ts vs σ w.H Q
section
variable {C : Cg} {X : Cx} {P : Pm} {w w1 w2 : Wd} {U : WX} {σ : L2.St} {env : Env} {e a b c o : Expr} {es ts : List Expr} {pos pos' : Pos} {fa fb fc fe : CE} {K : PySem.W.Frag} {st : Stmt} {rest body p q : List Stmt} {f g h : CS} {D : Ends}
theorem SE.goF (ha : SE C X e fa) (tk : Takes X U) (R : Rel X.K C P w) (E : RE X.K C w env σ) {k : W → S → RF} (h : OutF X.K C P U w ((fa env w.s).toF env k) D) {Q : VK}
    (q : ∀ w1 a v, Step X.K C P w w1 → RW X.K C w1 a v → RE X.K C w1 env σ → OutF X.K C P U w1 (k a w1.s) D → Q v w1.H) : EX X e σ w.H Q :=
  ha P U w env σ Q tk R E (OutF.of E h q)
theorem ST.goF {ft : CT} (ha : ST C X e ft) (tk : Takes X U) (R : Rel X.K C P w) (E : RE X.K C w env σ) {k : Bool → S → RF} (h : OutF X.K C P U w ((ft env w.s).toF env k) D) {Q : Bool → Hp → Prop}
    (q : ∀ w1 b, Step X.K C P w w1 → RE X.K C w1 env σ → OutF X.K C P U w1 (k b w1.s) D → Q b w1.H) : TX X e σ w.H Q :=
  ha P U w env σ Q tk R E (OutF.of E h fun w1 a v st ra E1 h1 => by subst ra; exact q w1 a st E1 h1)
theorem SA.goF {g : CA} (ha : SA C X es g) (tk : Takes X U) (R : Rel X.K C P w) (E : RE X.K C w env σ) {k : List W → S → RF} (h : OutF X.K C P U w ((g env w.s).toF env k) D) {Q : List V → Hp → Prop}
    (q : ∀ w1 a v, Step X.K C P w w1 → RWs X.K C w1 a v → RE X.K C w1 env σ → OutF X.K C P U w1 (k a w1.s) D → Q v w1.H) : AX X es σ w.H Q :=
  ha P U w env σ Q tk R E (OutF.of E h q)
theorem SG.goF {g : TG} {sl : List Nat} (hg : SG C X e g sl) (tk : Takes X U) (R : Rel X.K C P w) (E : RE X.K C w env σ) {x : W} {v : V} (r : RW X.K C w x v) {k : Env → S → RF} (h : OutF X.K C P U w ((g x env w.s).toF env k) D) {Q : L2.St → Hp → Prop}
    (q : ∀ w1 e1 σ1, Step X.K C P w w1 → RE X.K C w1 e1 σ1 → OutF X.K C P U w1 (k e1 w1.s) D → Q σ1 w1.H) : GX X e v σ w.H Q :=
  hg.run P U w env σ x v Q tk R E r (OutF.of E h fun w1 a v st ra _ h1 => q w1 a v st ra.1 h1)
/-! ### rows -/
theorem sss_nil : SSs C X [] sNil := fun P U w env σ D tk R E h => sxs_of pss_nil (h w rfl (.refl R) σ E)
theorem sss_cons (h1 : SS C X st f) (h2 : SSs C X rest g) : SSs C X (st :: rest) (sSeq f g) := by
  intro P U w env σ D tk R E h
  refine sxs_of (pss_cons ps_sx pss_sx) ?_
  refine h1 P U w env σ _ tk R E ?_
  unfold sSeq at h
  cases er : f env w.s with
  | nx e s =>
    rw [er] at h
    intro w' es st σ' E'
    subst es
    exact h2 P U w' e σ' D tk st.rel E' (OutF.mono st h)
  | brk e s => rw [er] at h; exact h
  | cnt e s => rw [er] at h; exact h
  | ret e s => rw [er] at h; exact h
  | exc x e s => rw [er] at h; exact h
  | bad => rw [er] at h; exact h
theorem sss_one (h1 : SS C X st f) : SSs C X [st] f := fun P U w env σ D tk R E h => sxs_of (pss_one ps_sx) (h1 P U w env σ D tk R E h)
theorem ss_pass : SS C X (.Pass pos) sNil := fun P U w env σ D tk R E h => sx_of ps_pass (h w rfl (.refl R) σ E)
theorem ss_brk : SS C X (.Break pos) sBrk := fun P U w env σ D tk R E h => sx_of ps_break (h w rfl (.refl R) σ E)
theorem ss_cnt : SS C X (.Continue pos) sCnt := fun P U w env σ D tk R E h => sx_of ps_continue (h w rfl (.refl R) σ E)
theorem ss_doc {x j} : SS C X (.Expr (.Constant (.str x) j pos) pos') sNil := fun P U w env σ D tk R E h => sx_of ps_doc (h w rfl (.refl R) σ E)
theorem ss_expr (he : SE C X e fa) (hs : swapsWith e none pos.line X.env = pure false := by rfl) : SS C X (.Expr e pos) (sExpr fa) := fun P U w env σ D tk R E h =>
  sx_of (ps_expr pe_ex hs) (he.goF tk R E h fun w1 x v st ra E1 h1 => h1 w1 rfl (.refl st.rel) σ E1)
theorem ss_ret (he : SE C X e fa) : SS C X (.Return (some e) pos) (sRet fa) := fun P U w env σ D tk R E h =>
  sx_of (ps_ret pe_ex) (he.goF tk R E h fun w1 x v st ra E1 h1 => h1 w1 rfl (.refl st.rel) v ra)
theorem ss_retN : SS C X (.Return none pos) sRetN := fun P U w env σ D tk R E h => sx_of ps_retN (h w rfl (.refl R) .non (show RW X.K C w (.d .non) .non by simp [RW, RD]))
theorem ss_if {t : CT} (hc : ST C X c t) (ha : SSs C X p f) (hb : SSs C X q g) : SS C X (.If c p q pos) (sIf t f g) := by
  intro P U w env σ D tk R E h
  refine sx_of (ps_if pt_tx pss_sx pss_sx) ?_
  refine hc.goF tk R E h fun w1 b st E1 h1 => ?_
  cases b with
  | true => exact ha P U w1 env σ D tk st.rel E1 h1
  | false => exact hb P U w1 env σ D tk st.rel E1 h1
/-- a name is set -/
theorem ss_set {i : Nat} {x : Str} (hN : X.N.Nodup) (hi : X.N[i]? = some x) (hx : Loc X.env.scope x) (he : SE C X e fa) (hf : X.fn x = true ∨ X.env.scope.names.lookup x = some .local) (hs : swapsWith e (some (.Name x pos')) pos.line X.env = pure false := by rfl) :
    SS C X (.Assign [.Name x pos'] e pos) (sAsg fa (gNm i)) := fun P U w env σ D tk R E h =>
  sx_of (ps_set hN hi hx pe_ex hs hf) (he.goF tk R E h fun w1 x v st ra E1 h1 => h1 w1 rfl (.refl st.rel) _ (E1.set ra))
/-! ### targets -/
theorem sg_nm {i : Nat} {x : Str} (hN : X.N.Nodup) (hi : X.N[i]? = some x) (hx : Loc X.env.scope x) (hf : X.fn x = true ∨ X.env.scope.names.lookup x = some .local) : SG C X (.Name x pos) (gNm i) [i] := ⟨fun _ _ _ _ _ h => (by cases h), fun P U w env σ x v Q tk R E r h =>
  gx_of (pg_name hN hi hx hf) (h w rfl (.refl R) _ ⟨E.set r, by simp, fun j hj => List.getElem?_set_ne (by simpa [eq_comm] using hj)⟩)⟩
theorem sgs_nil : SGs C X [] [] [] := by
  constructor
  · intro xs e s y s' h
    cases xs with
    | nil => cases h
    | cons => cases h
  · intro P U w env σ xs vs Q tk R E r h
    cases xs with
    | nil =>
      simp only [RDs] at r
      subst r
      exact gxs_of pgs_nil ⟨rfl, h w rfl (.refl R) _ ⟨E, .refl⟩⟩
    | cons => exact h.elim
theorem out_other {rel : Wd → Env → L2.St → Prop} {r : RS Env} {Q : L2.St → Hp → Prop} {σ1 : L2.St} (n : ∀ y s', r ≠ .exc y s') (h : Out K C P U σ rel w r Q) : Out K C P U σ1 rel w r Q := by
  cases r with
  | ok a s => exact h
  | exc x s => exact absurd rfl (n x s)
  | bad => exact h
theorem sgs_cons {g : TG} {gs : List TG} {t1 t2 : List Nat} (h1 : SG C X e g t1) (h2 : SGs C X es gs t2) (hs : (assignEach (e :: es) X.env).map (·.2) = assign e X.env :: (assignEach es X.env).map (·.2) := by rfl) : SGs C X (e :: es) (g :: gs) (t1 ++ t2) := by
  refine ⟨fun xs e s y s' h => ?_, fun P U w env σ xs vs Q tk R E r h => ?_⟩
  · cases xs with
    | nil => cases h
    | cons x xs =>
      unfold gEach at h
      cases er : g (.d x) e s with
      | ok a s1 => rw [er] at h; exact h2.nox _ _ _ _ _ h
      | exc z s1 => exact h1.nox _ _ _ _ _ er
      | bad => rw [er] at h; cases h
  · cases xs with
    | nil => exact h.elim
    | cons x xs =>
      simp only [RDs] at r
      obtain ⟨v, r', rfl, r1, r2⟩ := r
      refine gxs_of (pgs_cons pg_gx pgs_gx hs) ⟨v, r', rfl, ?_⟩
      refine h1.run P U w env σ (.d x) v _ tk R E r1 (Out.bind h fun w1 e1 σ1 st E1 h' => ?_)
      refine h2.run P U w1 e1 σ1 xs r' Q tk st.rel E1.1 (RDs.mono st.ex _ _ r2) ?_
      have h'' := out_other (σ1 := σ1) (h2.nox _ _ _) h'
      cases er : gEach gs xs e1 w1.s with
      | ok a s =>
        rw [er] at h''
        exact fun w' es st' v rv => h'' w' es st' v ⟨rv.1, E1.2.trans rv.2⟩
      | exc y s => exact absurd er (h2.nox _ _ _ _ _)
      | bad => rw [er] at h''; exact h''
theorem sg_tp {gs : List TG} {k : Nat} {sl : List Nat} (hc : X.calm = true) (h : SGs C X es gs sl) (hn : (assignEach es X.env).length = gs.length := by rfl) (hst : (assignEach es X.env).findIdx? (·.1) = none := by rfl) : SG C X (.Tuple es k pos) (gTp gs) sl := by
  refine ⟨fun x e s y s' q => ?_, fun P U w env σ x v Q tk R E r q => ?_⟩
  · unfold gTp at q
    split at q
    · split at q
      · split at q
        · exact h.nox _ _ _ _ _ q
        · cases q
      · cases q
    · cases q
  · cases x with
    | ref i => exact q.elim
    | d x =>
      cases x with
      | tup xs =>
        have r' : RD X.K C w.Zf w.H (.tup xs) v := r
        simp only [RD] at r'
        obtain ⟨a, vs, rfl, h1, h2⟩ := r'
        refine gx_of (pg_tup hc pgs_gx hn hst) ⟨a, vs, rfl, h1.sq, ?_, ?_⟩
        · unfold gTp itemsOf at q
          dsimp only at q
          split at q
          · rename_i hl
            rw [← h2.length, hl]
          · exact q.elim
        · unfold gTp itemsOf at q
          dsimp only at q
          split at q
          · exact h.run P U w env σ xs vs Q tk R E h2 q
          · exact q.elim
      | lst xs =>
        have r' : RD X.K C w.Zf w.H (.lst xs) v := r
        simp only [RD] at r'
        obtain ⟨a, vs, rfl, h1, h2⟩ := r'
        refine gx_of (pg_lst hc pgs_gx hn hst) ⟨a, vs, rfl, h1.sq, ?_, ?_⟩
        · unfold gTp itemsOf at q
          dsimp only at q
          split at q
          · rename_i hl
            rw [← h2.length, hl]
          · exact q.elim
        · unfold gTp itemsOf at q
          dsimp only at q
          split at q
          · exact h.run P U w env σ xs vs Q tk R E h2 q
          · exact q.elim
      | _ => exact q.elim
/-- target = e -/
theorem ss_asg {tg : Expr} {g : TG} {sl : List Nat} (he : SE C X e fa) (hg : SG C X tg g sl) (hs : swapsWithSole [tg] e pos.line X.env = pure false := by rfl) (hw : swappedStores [tg] e X.env = pure none := by rfl)
    (h1 : (assignEach [tg] X.env).map (·.2) = [assign tg X.env] := by rfl) : SS C X (.Assign [tg] e pos) (sAsg fa g) := fun P U w env σ D tk R E h =>
  sx_of (ps_asg pe_ex pg_gx hs hw h1) (he.goF tk R E h fun w1 x v st ra E1 h1 => hg.goF tk st.rel E1 ra h1 fun w2 e2 σ2 st2 E2 h2 => h2 w2 rfl (.refl st2.rel) _ E2)
end
end Z
end

section
set_option Elab.async false
set_option linter.all false
set_option maxRecDepth 100000
set_option maxHeartbeats 4000000
/-! Loops; stores. -/
namespace Z
open PySem PySem.Spec PyProof.Rows L2

/-- what an iterator over xs does -/
def JAll (K : PySem.W.Frag) (C : Cg) (w : Wd) (xs : List D) (J : It) : Prop := ∀ w', Ex w.Zf w.H w'.Zf w'.H → ∀ i,
  (∀ x, xs[i]? = some x → J.go i w'.H ∧ ∀ v H', J.yld i w'.H v H' → ∀ P, Rel K C P w' → Step K C P w' { w' with H := H' } ∧ RD K C w'.Zf H' x v) ∧ (xs.length ≤ i → J.stop i w'.H)
/-- over a list that may change -/
def JAt (K : PySem.W.Frag) (C : Cg) (a : Addr) (J : It) : Prop := ∀ (w' : Wd) xs vs, w'.H a = some (.lst vs) → RDs K C w'.Zf w'.H xs vs → ∀ i,
  (∀ x, xs[i]? = some x → J.go i w'.H ∧ ∀ v H', J.yld i w'.H v H' → H' = w'.H ∧ RD K C w'.Zf w'.H x v) ∧ (xs.length ≤ i → J.stop i w'.H)
def RJ (K : PySem.W.Frag) (C : Cg) (w : Wd) (x : Itm) (J : It) : Prop := match x with
  | .all xs => JAll K C w xs J
  | .at_ i _ => i < w.s.nx ∧ JAt K C (w.m i).1 J
def IX (X : Cx) (tg it : Expr) : TI := fun σ H R => ∀ (pins : List (Addr × Obj)) (s : Shared), Inv X pins σ H s → wpAny (model X.prog X.w) X.A (eval it X.env) (fun v s1 => wpAny (model X.prog X.w) X.A (pyIter v) (PIE X pins σ tg R) X.xe s1) X.xe s
theorem pi_ix {X : Cx} {tg it : Expr} : PI X tg it (IX X tg it) := ⟨fun pins s σ H R I h => h pins s I⟩
theorem ix_of {X : Cx} {tg it : Expr} {t : TI} {σ : L2.St} {H : Hp} {R : It → Hp → Prop} (h : PI X tg it t) (q : t σ H R) : IX X tg it σ H R := fun pins s I => h.run pins s σ H R I q
/-- what is walked is simulated -/
def SI (C : Cg) (X : Cx) (tg it : Expr) (f : CI) : Prop := ∀ (P : Pm) (U : WX) (w : Wd) (env : Env) (σ : L2.St) (R : It → Hp → Prop), Takes X U → Rel X.K C P w → RE X.K C w env σ → Out X.K C P U σ (RJ X.K C) w (f env w.s) R → IX X tg it σ w.H R
section
variable {C : Cg} {X : Cx} {P : Pm} {w w1 w2 : Wd} {U : WX} {σ : L2.St} {env : Env} {e a b c o tg it : Expr} {es ts : List Expr} {pos pos' : Pos} {fa fb fc fe : CE} {K : PySem.W.Frag} {st : Stmt} {rest body p q : List Stmt} {f h : CS} {Dn : Ends}
theorem jall_same {J : It} {xs : List D} {vs : List V} (H1 : ∀ w' : Wd, Ex w.Zf w.H w'.Zf w'.H → RDs K C w'.Zf w'.H xs vs) (go : ∀ (w' : Wd) i x, Ex w.Zf w.H w'.Zf w'.H → vs[i]? = some x → J.go i w'.H ∧ ∀ v H', J.yld i w'.H v H' → H' = w'.H ∧ v = x)
    (stop : ∀ (w' : Wd) i, Ex w.Zf w.H w'.Zf w'.H → vs.length ≤ i → J.stop i w'.H) : JAll K C w xs J := fun w' ex i => by
  have r := H1 w' ex
  refine ⟨fun x e => ?_, fun h => stop w' i ex (by rw [← r.length]; exact h)⟩
  obtain ⟨v, e1, r1⟩ := r.get e
  obtain ⟨g, y⟩ := go w' i v ex e1
  refine ⟨g, fun u H' yl => ?_⟩
  obtain ⟨rfl, rfl⟩ := y u H' yl
  exact fun P R => ⟨.refl R, r1⟩
/-- the loop over items that stand -/
theorem for_all {g : TG} {f : CS} {J : It} {xs : List D} {sl : List Nat} (hg : SG C X tg g sl) (hb : SSs C X body f) (tk : Takes X U) (st : Rel X.K C P w) (E : RE X.K C w env σ) (hj : JAll X.K C w xs J) (h : OutF X.K C P U w (forAll g f xs env w.s) Dn) :
    ∃ W : Nat → Nat → L2.St → Hp → Prop, (∃ m, W 0 m σ w.H) ∧ ∀ i m σ H, W i m σ H →
      (J.stop i H ∧ Dn.nx σ H) ∨ (J.go i H ∧ ∃ N : L2.St → Hp → Prop, (∀ σ' H', N σ' H' → ∃ m', m' < m ∧ W (i + 1) m' σ' H') ∧ ∀ x H', J.yld i H x H' → GX X tg x σ H' fun σ2 H2 => SXs X body { Dn with nx := N, ct := N, bk := Dn.nx } σ2 H2) := by
  refine ⟨fun i m σ H => ∃ w' env, H = w'.H ∧ Step X.K C P w w' ∧ RE X.K C w' env σ ∧ m = xs.length - i ∧ OutF X.K C P U w' (forAll g f (xs.drop i) env w'.s) Dn, ⟨_, w, env, rfl, .refl st, E, rfl, by simpa using h⟩, ?_⟩
  rintro i m σ _ ⟨w1, env1, rfl, st1, E1, rfl, h1⟩
  obtain ⟨j1, j2⟩ := hj w1 st1.ex i
  cases ex : xs[i]? with
  | none =>
    have hl : xs.length ≤ i := List.getElem?_eq_none_iff.mp ex
    refine .inl ⟨j2 hl, ?_⟩
    rw [List.drop_eq_nil_of_le hl] at h1
    exact h1 w1 rfl (.refl st1.rel) σ E1
  | some x =>
    obtain ⟨hl, _⟩ := List.getElem?_eq_some_iff.mp ex
    obtain ⟨go, yl⟩ := j1 x ex
    refine .inr ⟨go, fun σ' H' => ∃ w' env, H' = w'.H ∧ Step X.K C P w w' ∧ RE X.K C w' env σ' ∧ OutF X.K C P U w' (forAll g f (xs.drop (i + 1)) env w'.s) Dn, ?_, ?_⟩
    · rintro σ' _ ⟨w2, env2, rfl, st2, E2, h2⟩
      exact ⟨xs.length - (i + 1), by omega, w2, env2, rfl, st2, E2, rfl, h2⟩
    · intro v H' y
      obtain ⟨st2, r2⟩ := yl v H' y P st1.rel
      have ed : xs.drop i = x :: xs.drop (i + 1) := by
        rw [List.drop_eq_getElem_cons hl]
        congr 1
      rw [ed] at h1
      have h2 := OutF.mono st2 h1
      refine hg.goF (w := { w1 with H := H' }) (x := .d x) tk st2.rel (E1.mono st2) r2 h2 fun w3 e3 σ3 st3 E3 h3 => ?_
      refine hb P U w3 e3 σ3 _ tk st3.rel E3 ?_
      have ok : ∀ w4 e4 σ4, Step X.K C P w3 w4 → RE X.K C w4 e4 σ4 → OutF X.K C P U w4 (forAll g f (xs.drop (i + 1)) e4 w4.s) Dn → ∃ w' env, w4.H = w'.H ∧ Step X.K C P w w' ∧ RE X.K C w' env σ4 ∧ OutF X.K C P U w' (forAll g f (xs.drop (i + 1)) env w'.s) Dn :=
        fun w4 e4 σ4 st4 E4 h4 => ⟨w4, e4, rfl, ((st1.trans st2).trans st3).trans st4, E4, h4⟩
      cases er : f e3 w3.s with
      | nx e s =>
        rw [er] at h3
        intro w4 es st4 σ4 E4
        subst es
        exact ok w4 e σ4 st4 E4 (OutF.mono st4 h3)
      | cnt e s =>
        rw [er] at h3
        intro w4 es st4 σ4 E4
        subst es
        exact ok w4 e σ4 st4 E4 (OutF.mono st4 h3)
      | brk e s => rw [er] at h3; exact h3
      | ret e s => rw [er] at h3; exact h3
      | exc x e s => rw [er] at h3; exact h3
      | bad => rw [er] at h3; exact h3
/-- over a list of the store -/
theorem for_at {g : TG} {f : CS} {J : It} {j n : Nat} {sl : List Nat} (hg : SG C X tg g sl) (hb : SSs C X body f) (tk : Takes X U) (st : Rel X.K C P w) (E : RE X.K C w env σ) (hn : j < w.s.nx) (hj : JAt X.K C (w.m j).1 J) (h : OutF X.K C P U w (forAt g f j n 0 env w.s) Dn) :
    ∃ W : Nat → Nat → L2.St → Hp → Prop, (∃ m, W 0 m σ w.H) ∧ ∀ i m σ H, W i m σ H →
      (J.stop i H ∧ Dn.nx σ H) ∨ (J.go i H ∧ ∃ N : L2.St → Hp → Prop, (∀ σ' H', N σ' H' → ∃ m', m' < m ∧ W (i + 1) m' σ' H') ∧ ∀ x H', J.yld i H x H' → GX X tg x σ H' fun σ2 H2 => SXs X body { Dn with nx := N, ct := N, bk := Dn.nx } σ2 H2) := by
  refine ⟨fun i m σ H => ∃ w' env, H = w'.H ∧ Step X.K C P w w' ∧ RE X.K C w' env σ ∧ OutF X.K C P U w' (forAt g f j m i env w'.s) Dn, ⟨n, w, env, rfl, .refl st, E, h⟩, ?_⟩
  rintro i m σ _ ⟨w1, env1, rfl, st1, E1, h1⟩
  cases m with
  | zero => exact h1.elim
  | succ m =>
    unfold forAt at h1
    cases q : w1.s.get j with
    | none => rw [q] at h1; exact h1.elim
    | some ob =>
      rw [q] at h1
      cases ob with
      | lst xs =>
        obtain ⟨vs, q1, q2⟩ := st1.rel.obj j _ q
        rw [st1.mx j hn] at q1
        obtain ⟨j1, j2⟩ := hj w1 xs vs q1 q2 i
        dsimp only at h1
        cases ex : xs[i]? with
        | none =>
          rw [ex] at h1
          exact .inl ⟨j2 (List.getElem?_eq_none_iff.mp ex), h1 w1 rfl (.refl st1.rel) σ E1⟩
        | some x =>
          rw [ex] at h1
          obtain ⟨go, yl⟩ := j1 x ex
          refine .inr ⟨go, fun σ' H' => ∃ w' env, H' = w'.H ∧ Step X.K C P w w' ∧ RE X.K C w' env σ' ∧ OutF X.K C P U w' (forAt g f j m (i + 1) env w'.s) Dn, ?_, ?_⟩
          · rintro σ' _ ⟨w2, env2, rfl, st2, E2, h2⟩
            exact ⟨m, Nat.lt_succ_self m, w2, env2, rfl, st2, E2, h2⟩
          · intro v H' y
            obtain ⟨rfl, r2⟩ := yl v H' y
            refine hg.goF (w := w1) (x := .d x) tk st1.rel E1 r2 h1 fun w3 e3 σ3 st3 E3 h3 => ?_
            refine hb P U w3 e3 σ3 _ tk st3.rel E3 ?_
            have ok : ∀ w4 e4 σ4, Step X.K C P w3 w4 → RE X.K C w4 e4 σ4 → OutF X.K C P U w4 (forAt g f j m (i + 1) e4 w4.s) Dn → ∃ w' env, w4.H = w'.H ∧ Step X.K C P w w' ∧ RE X.K C w' env σ4 ∧ OutF X.K C P U w' (forAt g f j m (i + 1) env w'.s) Dn :=
              fun w4 e4 σ4 st4 E4 h4 => ⟨w4, e4, rfl, (st1.trans st3).trans st4, E4, h4⟩
            cases er : f e3 w3.s with
            | nx e s =>
              rw [er] at h3
              intro w4 es st4 σ4 E4
              subst es
              exact ok w4 e σ4 st4 E4 (OutF.mono st4 h3)
            | cnt e s =>
              rw [er] at h3
              intro w4 es st4 σ4 E4
              subst es
              exact ok w4 e σ4 st4 E4 (OutF.mono st4 h3)
            | brk e s => rw [er] at h3; exact h3
            | ret e s => rw [er] at h3; exact h3
            | exc x e s => rw [er] at h3; exact h3
            | bad => rw [er] at h3; exact h3
      | _ => exact h1.elim
theorem ss_for {g : TG} {f : CS} {fi : CI} {sl : List Nat} (hp : PassesOwn (model X.prog X.w) X.A X.env X.xe) (hc : X.calm = true) (hi : SI C X tg it fi) (hg : SG C X tg g sl) (hb : SSs C X body f) (hs : ∀ x, foldedSetIterable it X.env x = pure x := by intro _; rfl) :
    SS C X (.For tg it body [] pos) (sFor fi g f) := by
  intro P U w env σ Dn tk R E h
  refine sx_of (ps_for hp hc pi_ix pg_gx pss_sx hs) ?_
  refine hi P U w env σ _ tk R E (OutF.of E h fun w1 J0 J st rj E1 h1 => ?_)
  cases J0 with
  | all xs => exact for_all hg hb tk st.rel E1 rj h1
  | at_ j n => exact for_at hg hb tk st.rel E1 rj.1 rj.2 h1
theorem ss_while {t : CT} {f : CS} {n : Nat} (hp : PassesOwn (model X.prog X.w) X.A X.env X.xe) (ht : ST C X c t) (hb : SSs C X body f) : SS C X (.While c body [] pos) (sWhile n t f) := by
  intro P U w env σ Dn tk R E h
  refine sx_of (ps_while hp pt_tx pss_sx) ?_
  refine ⟨fun m σ H => ∃ w' env, H = w'.H ∧ Step X.K C P w w' ∧ RE X.K C w' env σ ∧ OutF X.K C P U w' (whileN t f m env w'.s) Dn, ⟨n, w, env, rfl, .refl R, E, h⟩, ?_⟩
  rintro m σ _ ⟨w1, env1, rfl, st1, E1, h1⟩
  cases m with
  | zero => exact h1.elim
  | succ m =>
    unfold whileN at h1
    refine ht.goF tk st1.rel E1 h1 fun w2 b st2 E2 h2 => ?_
    cases b with
    | false => exact h2 w2 rfl (.refl st2.rel) σ E2
    | true =>
      refine ⟨fun σ' H' => ∃ w' env, H' = w'.H ∧ Step X.K C P w w' ∧ RE X.K C w' env σ' ∧ OutF X.K C P U w' (whileN t f m env w'.s) Dn, ?_, ?_⟩
      · rintro σ' _ ⟨w3, env3, rfl, st3, E3, h3⟩
        exact ⟨m, Nat.lt_succ_self m, w3, env3, rfl, st3, E3, h3⟩
      · refine hb P U w2 env1 σ _ tk st2.rel E2 ?_
        have ok : ∀ w4 e4 σ4, Step X.K C P w2 w4 → RE X.K C w4 e4 σ4 → OutF X.K C P U w4 (whileN t f m e4 w4.s) Dn → ∃ w' env, w4.H = w'.H ∧ Step X.K C P w w' ∧ RE X.K C w' env σ4 ∧ OutF X.K C P U w' (whileN t f m env w'.s) Dn :=
          fun w4 e4 σ4 st4 E4 h4 => ⟨w4, e4, rfl, (st1.trans st2).trans st4, E4, h4⟩
        rw [if_pos rfl] at h2
        cases er : f env1 w2.s with
        | nx e s =>
          rw [er] at h2
          intro w4 es st4 σ4 E4
          subst es
          exact ok w4 e σ4 st4 E4 (OutF.mono st4 h2)
        | cnt e s =>
          rw [er] at h2
          intro w4 es st4 σ4 E4
          subst es
          exact ok w4 e σ4 st4 E4 (OutF.mono st4 h2)
        | brk e s => rw [er] at h2; exact h2
        | ret e s => rw [er] at h2; exact h2
        | exc x e s => rw [er] at h2; exact h2
        | bad => rw [er] at h2; exact h2
/-! ### a, b = x, y -/
theorem ss_par {i j : Nat} {x y : Str} {g : CA} {px py pt : Pos} {kt k2 pt2} (hc : X.calm = true) (hN : X.N.Nodup) (hi : X.N[i]? = some x) (hj : X.N[j]? = some y) (hij : i ≠ j) (hx : X.env.scope.names.lookup x = some .local) (hy : X.env.scope.names.lookup y = some .local) (ha : SA C X [a, b] g)
    (hw : swappedStores [.Tuple [.Name x px, .Name y py] kt pt] (.Tuple [a, b] k2 pt2) X.env = pure (some [x, y])) (hs : swapsWithSole [.Tuple [.Name x px, .Name y py] kt pt] (.Tuple [a, b] k2 pt2) pos.line X.env = pure false := by rfl) :
    SS C X (.Assign [.Tuple [.Name x px, .Name y py] kt pt] (.Tuple [a, b] k2 pt2) pos) (sPar g [gNm i, gNm j]) := by
  intro P U w env σ Dn tk R E h
  refine sx_of (ps_par hc hN hi hj hij hx hy pa_ax hw hs) ?_
  refine ha.goF tk R E h fun w1 ws vs st rs E1 h1 => ?_
  match ws, vs, rs, h1 with
  | [], _, _, h1 => exact h1.elim
  | [_], _, _, h1 => exact h1.elim
  | [u, v], _, ⟨v1, _, rfl, r1, v2, _, rfl, r2, r3⟩, h1 =>
    cases (show _ = [] from r3)
    exact ⟨v1, v2, rfl, h1 w1 rfl (.refl st.rel) _ ((E1.set r1).set r2)⟩
  | _ :: _ :: _ :: _, _, _, h1 => exact h1.elim
theorem ss_par3 {i j l : Nat} {x y z : Str} {g : CA} {px py pz pt : Pos} {kt k2 pt2} (hc : X.calm = true) (hN : X.N.Nodup) (hi : X.N[i]? = some x) (hj : X.N[j]? = some y) (hl : X.N[l]? = some z) (hij : i ≠ j) (hil : i ≠ l) (hjl : j ≠ l) (hx : X.env.scope.names.lookup x = some .local) (hy : X.env.scope.names.lookup y = some .local)
    (hz : X.env.scope.names.lookup z = some .local) (ha : SA C X [a, b, c] g)
    (hw : swappedStores [.Tuple [.Name x px, .Name y py, .Name z pz] kt pt] (.Tuple [a, b, c] k2 pt2) X.env = pure (some [x, y, z])) (hs : swapsWithSole [.Tuple [.Name x px, .Name y py, .Name z pz] kt pt] (.Tuple [a, b, c] k2 pt2) pos.line X.env = pure false := by rfl) :
    SS C X (.Assign [.Tuple [.Name x px, .Name y py, .Name z pz] kt pt] (.Tuple [a, b, c] k2 pt2) pos) (sPar g [gNm i, gNm j, gNm l]) := by
  intro P U w env σ Dn tk R E h
  refine sx_of (ps_par3 hc hN hi hj hl hij hil hjl hx hy hz pa_ax hw hs) ?_
  refine ha.goF tk R E h fun w1 ws vs st rs E1 h1 => ?_
  match ws, vs, rs, h1 with
  | [], _, _, h1 => exact h1.elim
  | [_], _, _, h1 => exact h1.elim
  | [_, _], _, _, h1 => exact h1.elim
  | [u, v, t], _, ⟨v1, _, rfl, r1, v2, _, rfl, r2, v3, _, rfl, r3, r4⟩, h1 =>
    cases (show _ = [] from r4)
    exact ⟨v1, v2, v3, rfl, h1 w1 rfl (.refl st.rel) _ (((E1.set r1).set r2).set r3)⟩
  | _ :: _ :: _ :: _ :: _, _, _, h1 => exact h1.elim
/-! ### stores -/
theorem set_ix {xs : List D} {n : Int} {z : D} {ys : List D} (e : setD xs n z = some ys) : ∃ j, ixN xs.length n = some j ∧ ys = xs.set j z := by
  unfold setD at e
  unfold ixN
  split at e
  · rename_i h0
    split at e
    · rename_i h1
      cases e
      exact ⟨n.toNat, by rw [if_pos h0, if_pos (by omega)], rfl⟩
    · cases e
  · rename_i h0
    split at e
    · rename_i h1
      cases e
      exact ⟨(n + xs.length).toNat, by rw [if_neg h0, if_pos h1], rfl⟩
    · cases e
/-- a list of the store is written -/
theorem step_lset (R : Rel K C P w) {j : Nat} {xs ys : List D} {us : List V} (q : w.s.get j = some (.lst xs)) (h : RDs K C w.Zf w.H ys us) : Step K C P w ⟨w.Zf, w.m, w.s.put j (.lst ys), upd w.H (w.m j).1 (.lst us)⟩ := by
  refine step_put R q rfl (fun a h => upd_ne fun z => h (by simp [foot, z])) (fun b h => ?_) fun wn e1 e2 ex e3 => ⟨us, by rw [e1, upd_same], RDs.mono ex _ _ h⟩
  have : b = (w.m j).1 := by simpa [foot] using h
  subst this
  exact ⟨_, upd_same⟩
theorem ss_put (hv : SE C X e fe) (ho : SE C X o fa) (hi : SE C X a fb) (hs : swapsWithSole [.Subscript o a pos'] e pos.line X.env = pure false := by rfl) (hw : swappedStores [.Subscript o a pos'] e X.env = pure none := by rfl)
    (h1 : (assignEach [.Subscript o a pos'] X.env).map (·.2) = [assign (.Subscript o a pos') X.env] := by rfl)
    (ha : ∀ v, assign (.Subscript o a pos') X.env v = (do
      let ov ← holding [v] (eval o X.env)
      let iv ← holding [v, ov] (eval a X.env)
      standAt pos'
      holding [v, ov, iv] (setItem ov iv v)
      release [v, ov, iv] []) := by intro _; rfl) : SS C X (.Assign [.Subscript o a pos'] e pos) (sPut fe fa fb) := by
  intro P U w env σ Dn tk R E h
  refine sx_of (ps_asg pe_ex (pg_sub pe_ex pe_ex set_list ha) hs hw h1) ?_
  refine hv.goF tk R E h fun w1 y v st ry E1 h1 => ?_
  refine ho.goF tk st.rel E1 h1 fun w2 x u st2 rx E2 h2 => ?_
  refine hi.goF tk st2.rel E2 h2 fun w3 k t st3 rk E3 h3 => ?_
  cases x with
  | d x => exact h3.elim
  | ref j =>
    cases k with
    | ref _ => exact h3.elim
    | d k =>
      cases y with
      | ref _ => cases k <;> exact h3.elim
      | d z =>
        cases k with
        | int n =>
          dsimp only at h3
          cases q : w3.s.get j with
          | none => rw [q] at h3; exact h3.elim
          | some ob =>
            rw [q] at h3
            cases ob with
            | lst xs =>
              dsimp only at h3
              cases es : setD xs n z with
              | none => rw [es] at h3; exact h3.elim
              | some ys =>
                rw [es] at h3
                obtain ⟨vs, q1, q2⟩ := st3.rel.obj j _ q
                obtain ⟨i, hi1, rfl⟩ := set_ix es
                have rt : t = .int n := by simpa [RW, RD] using rk
                subst rt
                have ru := RW.mono st3 rx
                refine ⟨(w3.m j).1, vs, n, i, ru.2, rfl, q1, by rw [← q2.length]; exact hi1, ?_⟩
                have rv : RD X.K C w3.Zf w3.H z v := RW.mono st3 (RW.mono st2 ry)
                have sp := step_lset (K := X.K) st3.rel q (q2.set i rv)
                exact h3 _ rfl sp σ (E3.mono sp)
            | _ => exact h3.elim
        | _ => exact h3.elim
/-- a slot is written -/
theorem step_fld (R : Rel K C P w) {j c i : Nat} {fs : List (Option W)} {x : W} {v : V} {vs : List (Option V)} (q : w.s.get j = some (.ins c fs)) (hk : C.kn c = true) (hs : SlX.Slt w.H (w.m j).1 (C.cl c) (w.m j).2 vs) (hne : (w.m j).2 ≠ (w.m j).1)
    (hln : vs.length = fs.length) (hv : ∀ (i : Nat) (x : W), fs[i]? = some (some x) → ∃ v, vs[i]? = some (some v) ∧ RW K C w x v) (r : RW K C w x v) :
    Step K C P w ⟨w.Zf, w.m, w.s.put j (.ins c ((fs ++ List.replicate (i + 1 - fs.length) none).set i (some x))), SlX.slH w.H (w.m j).1 (C.cl c) (w.m j).2 (SlX.putS i v vs)⟩ := by
  refine step_put R q rfl (fun a h => SlX.slH_ne (fun z => h (by simp [foot, z])) fun z => h (by simp [foot, z])) (fun b h => ?_) fun wn e1 e2 ex e3 => ?_
  · rcases List.mem_cons.mp (show b ∈ [(w.m j).1, (w.m j).2] from h) with z | z
    · subst z
      rcases (SlX.slH_slt (H := w.H) (a := (w.m j).1) (C := C.cl c) (dx := (w.m j).2) (vs := SlX.putS i v vs) hne) with ⟨h1, _⟩ | ⟨h1, _⟩
      · exact ⟨_, h1⟩
      · exact ⟨_, h1⟩
    · have : b = (w.m j).2 := by simpa using z
      subst this
      rcases (SlX.slH_slt (H := w.H) (a := (w.m j).1) (C := C.cl c) (dx := (w.m j).2) (vs := SlX.putS i v vs) hne) with ⟨h1, h2⟩ | ⟨_, h2⟩
      · unfold SlX.slH
        rw [upd_ne hne, upd_same]
        exact ⟨_, rfl⟩
      · exact ⟨_, h2⟩
  · have mono : ∀ (x : W) (v : V), RW K C w x v → RW K C wn x v := fun x v h => by
      cases x with
      | d x => exact RD.mono ex x v h
      | ref i => exact ⟨by rw [e2]; exact h.1, by rw [e3]; exact h.2⟩
    refine ⟨_, hk, by rw [e1]; exact SlX.slH_slt hne, hne, by simp [SlX.putS, hln], fun l y hy => ?_⟩
    by_cases hl : l = i
    · subst hl
      have hlt : l < (fs ++ List.replicate (l + 1 - fs.length) none).length := by
        rw [List.length_append, List.length_replicate]
        omega
      rw [List.getElem?_set_self hlt] at hy
      obtain rfl : x = y := by simpa using hy
      exact ⟨v, SlX.putS_get _ _ _, mono _ _ r⟩
    · rw [List.getElem?_set_ne (Ne.symm hl)] at hy
      have hf : fs[l]? = some (some y) := by
        by_cases hlt : l < fs.length
        · rwa [List.getElem?_append_left hlt] at hy
        · rw [List.getElem?_append_right (by omega), List.getElem?_replicate] at hy
          split at hy <;> simp at hy
      obtain ⟨u, q1, q2⟩ := hv l y hf
      exact ⟨u, (SlX.putS_ne hl).mpr q1, mono _ _ q2⟩
theorem ss_fld {f : Str} {ix : Nat → Option Nat} (g : ∀ c, C.kn c = true → GC X.K C c) (s : GS X.K C f ix) (hv : SE C X e fe) (ho : SE C X o fa) (hs : swapsWith e (some (.Attribute o f pos')) pos.line X.env = pure false := by rfl) : SS C X (.Assign [.Attribute o f pos'] e pos) (sFld ix fa fe) := by
  intro P U w env σ Dn tk R E h
  refine sx_of (SlX.ps_sl pe_ex pe_ex hs) ?_
  refine hv.goF tk R E h fun w1 y v st ry E1 h1 => ?_
  refine ho.goF tk st.rel E1 h1 fun w2 x u st2 rx E2 h2 => ?_
  cases x with
  | d x => exact h2.elim
  | ref j =>
    dsimp only at h2
    cases q : w2.s.get j with
    | none => rw [q] at h2; exact h2.elim
    | some ob =>
      rw [q] at h2
      cases ob with
      | ins c fs =>
        dsimp only at h2
        cases ei : ix c with
        | none => rw [ei] at h2; exact h2.elim
        | some i =>
          rw [ei] at h2
          obtain ⟨vs, hk, h1, h3, hln, h4⟩ := st2.rel.obj j _ q
          obtain ⟨sp, hsp⟩ := s c i ei
          have st3 := step_fld (i := i) st2.rel q hk h1 h3 hln h4 (RW.mono st2 ry)
          exact ⟨_, C.cl c, _, sp, vs, i, rx.2, h1, (g c hk).sc, hsp, h2 _ rfl st3 σ (E2.mono st3)⟩
      | _ => exact h2.elim
/-- an attribute among targets -/
theorem pg_fld {f : Str} {ta : TE} (ho : PE X o ta) : PG X (.Attribute o f pos) (fun v σ H Q => ta σ H fun x H2 => ∃ a C dx p vs i, x = .ref a ∧ SlX.Slt H2 a C dx vs ∧ SlX.SCls X.K C ∧ SlX.Slot1 X.K C f p i ∧ Q σ (SlX.slH H2 a C dx (SlX.putS i v vs))) := by
  refine ⟨fun pins s σ H v u Q I r h => ?_⟩
  refine PySem.W.kas_attr (thn (ho.run pins s σ H _ I h) fun ov s2 ⟨x, H2, I2, rx, a, C, dx, p, vs, i, ex, hsl, c, t, q2⟩ => ?_)
  subst ex
  obtain rfl : ov = Value.ref a := rx
  exact SlX.setslot_ok I2 hsl c t r fun s3 I3 => ⟨σ, _, I3, q2⟩
theorem sg_fld {f : Str} {ix : Nat → Option Nat} (g : ∀ c, C.kn c = true → GC X.K C c) (s : GS X.K C f ix) (ho : SE C X o fa) : SG C X (.Attribute o f pos) (gFld ix fa) [] := by
  refine ⟨fun x e s y s' q => ?_, fun P U w env σ y v Q tk R E ry h => ?_⟩
  · unfold gFld at q
    split at q
    · split at q
      · split at q <;> cases q
      · cases q
    · cases q
  · refine gx_of (pg_fld pe_ex) (ho P U w env σ _ tk R E ?_)
    unfold gFld at h
    cases er : fa env w.s with
    | bad => rw [er] at h; exact h.elim
    | exc x s => rw [er] at h; exact h.elim
    | ok x s1 =>
      rw [er] at h
      intro w2 es st2 u rx
      subst es
      cases x with
      | d x => exact h.elim
      | ref j =>
        dsimp only at h
        cases q : w2.s.get j with
        | none => rw [q] at h; exact h.elim
        | some ob =>
          rw [q] at h
          cases ob with
          | ins c fs =>
            dsimp only at h
            cases ei : ix c with
            | none => rw [ei] at h; exact h.elim
            | some i =>
              rw [ei] at h
              obtain ⟨vs, hk, h1, h3, hln, h4⟩ := st2.rel.obj j _ q
              obtain ⟨sp, hsp⟩ := s c i ei
              have st3 := step_fld (i := i) st2.rel q hk h1 h3 hln h4 (RW.mono st2 ry)
              exact ⟨_, C.cl c, _, sp, vs, i, rx.2, h1, (g c hk).sc, hsp, h _ rfl (st2.trans st3) σ ⟨(E.mono st2).mono st3, .refl⟩⟩
          | _ => exact h.elim
end
end Z
end

section
set_option Elab.async false
set_option linter.all false
set_option maxRecDepth 100000
set_option maxHeartbeats 4000000
/-! enumerate over a tuple. -/
namespace Z
open PySem PySem.Spec PyProof.Rows L2
open Sem (wp)
open AutoSeq1 (wpAny_loadPart')
theorem meets_enumT (l : Addr) (items : Array Value) (n : Nat) (dct : Option Addr) (sl : Array (Option Value)) :
    Meets (Builtin.«enumerate.__new__» ⟨[.type "enumerate", .ref l], []⟩) (fun _ R s => s.heap.get? l = some { cls := .type "tuple", dict := dct, data := .seq items n, slots := sl } ∧
      R (.ok (.ret (.ref (s.heap.push { cls := .type "tuple_iterator", data := .fields #[.ref l, .int 0 0] }).objs.size)))
        { s with heap := (s.heap.push { cls := .type "tuple_iterator", data := .fields #[.ref l, .int 0 0] }).push { cls := .type "enumerate", data := .fields #[.none, .bool false, .ref s.heap.objs.size, rawInt 0, .none, .none] } }) :=
  .of_wp fun prog w A R s h => by
    obtain ⟨hp, g, d, tk, os⟩ := s
    obtain ⟨hl, h⟩ := h
    have hsub := sub_enumerate
    have hL : Heap.IsTuple (Shared.heap ⟨hp, g, d, tk, os⟩) l items := ⟨_, hl, rfl, n, rfl⟩
    wp_walk using wpAny_loadPart' hl
    refine wpAny_stack_any fun st => wpAny_pure ?_
    split
    · rename_i c _ _ _ _ _
      cases (c == Value.type "enumerate")
      · wp_walk using wpAny_loadPart' hl, wpAny_pyIter_tuple hL
        exact ⟨_, rfl, h⟩
      · wp_walk using wpAny_loadPart' hl, wpAny_pyIter_tuple hL
        exact ⟨_, rfl, h⟩
    · wp_walk using wpAny_loadPart' hl, wpAny_pyIter_tuple hL
      exact ⟨_, rfl, h⟩
section
variable {prog : Program} {w : World} {A : Around} {E : Value → Shared → Prop} {s : Shared}
theorem call_enumT {l : Addr} {items : Array Value} {Q : Value → Shared → Prop} (hL : s.heap.IsTuple l items)
    (h : ∀ h', IsEnum h' (s.heap.objs.size + 1) s.heap.objs.size 0 .none → h'.IsTupleIter s.heap.objs.size l 0 → h'.objs.size = s.heap.objs.size + 2 →
      (∀ b o, s.heap.get? b = some o → h'.get? b = some o) → Q (.ref (s.heap.objs.size + 1)) { s with heap := h' }) :
    wpAny (model prog w) A (call (.type "enumerate") [.ref l]) Q E s := by
  obtain ⟨⟨c, dct, dt, sl⟩, hl, hc, n, hd⟩ := hL
  replace hc : c = .type "tuple" := hc
  replace hd : dt = .seq items n := hd
  subst hc hd
  refine callType_new F.called_enumerate (by decide) (F.typeCall_enumerate_1 _) (F.newCall_enumerate_1 _) (fun obj => F.args_object_init_2 obj _) F.entry_enumerate_new
    (meets_enumT l items n dct sl) ⟨hl, ?_⟩
  have hz : (s.heap.push { cls := .type "tuple_iterator", data := .fields #[.ref l, .int 0 0] }).objs.size = s.heap.objs.size + 1 := Heap.size_push ..
  show _ ∧ _
  rw [hz]
  have he : IsEnum ((s.heap.push { cls := .type "tuple_iterator", data := .fields #[.ref l, .int 0 0] }).push
      { cls := .type "enumerate", data := .fields #[.none, .bool false, .ref s.heap.objs.size, rawInt 0, .none, .none] }) (s.heap.objs.size + 1) s.heap.objs.size 0 .none := by
    have := Heap.get?_push_size (s.heap.push { cls := .type "tuple_iterator", data := .fields #[.ref l, .int 0 0] })
      (o := { cls := .type "enumerate", data := .fields #[.none, .bool false, .ref s.heap.objs.size, rawInt 0, .none, .none] }) rfl
    rw [hz] at this; exact this
  exact ⟨⟨_, he, rfl⟩, h _ he ⟨_, Heap.get?_push_of_some _ (Heap.get?_push_size _ rfl), rfl, rfl⟩ (by rw [Heap.size_push, hz]) fun b o x => Heap.get?_push_of_some _ (Heap.get?_push_of_some _ x)⟩
end
/-- the tuple at a, each item in a new pair -/
def Itet (K : PySem.W.Frag) (a : Addr) : It :=
  ⟨fun i H => ∃ (xs : List V) (x : V), SqT K H a xs ∧ xs[i]? = some x, fun i H v H' => ∃ T x, v = .ref T ∧ H T = none ∧ H' = upd H T (.tup [.int (i : Nat), x]) ∧ ∀ xs, SqT K H a xs → xs[i]? = some x, fun i H => ∃ xs : List V, SqT K H a xs ∧ xs.length ≤ i⟩
theorem turn_enumT {P : Program} {w : World} {K : PySem.W.Frag} {elts : List Expr} {kk : Nat} {tpos : Pos} (a e it : Addr) :
    Turn P w K (.Tuple elts kk tpos) (Itet K a) [e, it] e (fun i h => (∃ old, IsEnum h e it ((i : Nat) : Int) old) ∧ h.IsTupleIter it a i ∧ e ≠ it ∧ a ≠ it ∧ a ≠ e) where
  mem := by simp
  obj := fun i h st b hb => by
    obtain ⟨⟨old, he⟩, ⟨o, ho, hc, hd⟩, _⟩ := st
    have e' : b = e ∨ b = it := by simpa using hb
    rcases e' with z | z
    · rw [z]; exact ⟨_, he, fun v q => nomatch q⟩
    · rw [z]; exact ⟨o, ho, fun v q => by rw [hd] at q; cases q⟩
  keep := fun i h h' st k => let ⟨⟨old, he⟩, hi, hne⟩ := st; ⟨⟨old, k e (by simp) _ he⟩, hi.at fun o q => k it (by simp) o q, hne⟩
  item := by
    intro X hP hw hK hc i pins s σ H E I hf st hg
    subst hP hw hK
    obtain ⟨⟨old, he⟩, hit, hne, hai, hae⟩ := st
    obtain ⟨xs, x, hq, hx⟩ := hg
    obtain ⟨its, rv, p, hz⟩ := I.tuple hq
    obtain ⟨u, hu, ru⟩ := rv.get hx
    have hel : e < s.heap.objs.size := Heap.lt_size he
    have hil : it < s.heap.objs.size := by obtain ⟨_, q, _⟩ := hit; exact Heap.lt_size q
    have hlt : i < its.toArray.size := by
      rcases Nat.lt_or_ge i its.toArray.size with z | z
      · exact z
      · rw [List.getElem?_eq_none (by simpa using z)] at hu; cases hu
    refine wpAny_pyNext_enum_itemD (Draws.tuple (A := X.A.in1) (I.ok.hd hc) it a hai its.toArray) he ⟨hit, p⟩ hlt hne (by simp [hne, Ne.symm hae]) fun y h' tk py ho hst' hT hsz hk => ?_
    obtain rfl : u = y := by
      have : its.toArray[i]? = some u := by simpa using hu
      rw [this] at py
      exact Option.some.inj py
    obtain ⟨hit', _⟩ := hst'
    refine ⟨_, rfl, wpAny_letOwnedTupleGo_enum (s := { s with heap := h', toks := tk + 1 }) ho fun h'' he' sb => ?_⟩
    have hT2 : h''.get? s.heap.objs.size = some { cls := .type "tuple", data := .seq #[.int i tk, u] } := (sb.2 _ (Nat.ne_of_gt hel)).trans hT
    have new : ObjOk X.prog X.w (upd H s.heap.objs.size (.tup [.int (i : Nat), x])) h'' s.heap.objs.size (.tup [.int (i : Nat), x]) :=
      ⟨by show 2 ≤ sizeLine; decide, [.int i tk, u], .cons ⟨_, rfl⟩ (.cons ru .nil), ⟨_, hT2, rfl, _, rfl⟩⟩
    have I1 : Inv X pins σ (upd H s.heap.objs.size (.tup [.int (i : Nat), x])) { s with heap := h'', toks := tk + 1 } :=
      I.turnedNew (ch := [e, it]) (fun b ob hb q => (sb.2 b (fun z => hb (by simp [z]))).trans (hk b ob (fun z => hb (by simp [z])) (fun z => hb (by simp [z])) q)) hf (Nat.le_refl _) new
    refine ⟨.ref s.heap.objs.size, _, I1, rfl, ⟨_, x, rfl, I.hok.fresh (Nat.le_refl _), rfl, fun ys hy => by rw [I.tuple_inj hy hq]; exact hx⟩, ⟨⟨u, ?_⟩, hit'.at fun o q => (sb.2 it (Ne.symm hne)).trans q, hne, hai, hae⟩, fun b hb => ?_⟩
    · have e1 : ((i + 1 : Nat) : Int) = (i : Int) + 1 := by omega
      rw [e1]; exact he'
    · have hb' : b < s.heap.objs.size := by
        have e' : b = e ∨ b = it := by simpa using hb
        rcases e' with z | z
        · rw [z]; exact hel
        · rw [z]; exact hil
      rw [upd_ne (Nat.ne_of_lt hb')]
      exact (hf b hb).1
  done := by
    intro X hP hw hK hc i pins s σ H E I hf st hg
    subst hP hw hK
    obtain ⟨⟨old, he⟩, hit, hne, hai, hae⟩ := st
    obtain ⟨xs, hq, hx⟩ := hg
    obtain ⟨its, rv, p, hz⟩ := I.tuple hq
    obtain ⟨f0, f1, f2, f3, f4, f5⟩ := hf it (by simp)
    have hl := rv.length
    have hT : s.TypeIs (.ref e) "enumerate" := ⟨_, he, rfl⟩
    unfold pyNext
    refine wpAny_bind (wpAny_attempt (wpAny_callSpecial?_slot (name := Str.ofString "__next__") hT F.slot_enumerate_next
      (wpAny_call_entry F.slot_enumerate_next hT F.entry_enumerate_next ?_ (F.args_enumerate_next_1 _))))
    show wpAny _ _ (field (.ref e) 2 >>= _) _ _ _
    refine wpAny_bind (wpAny_field he rfl (x := .ref it) rfl ?_)
    refine wpAny_bind (PySem.wpAny_nextOf_tuple_end (I.ok.hd hc) hit p (by simp; omega) fun h' x he' hx' => ?_)
    obtain ⟨o, ho, hc⟩ := hx'
    refine wpAny_bind (wpAny_isInstance (T := "StopIteration") (b := true) ⟨o, ho, hc⟩ isSubtype_stop ?_)
    exact wpAny_pure ⟨rfl, I.turned (t' := s.toks) (fun b o hb q => he' b o hb q) f0 f1 f3 f4 f5⟩
  self := fun A i s Q E st h => let ⟨⟨_, he⟩, _⟩ := st; wpAny_pyIter_enum he h
/-- enumerate(e): of a list, of a tuple -/
def iEnumA (K : PySem.W.Frag) (ta : TA) : TI := fun σ H R => ta σ H fun vs H1 => ∃ a xs, vs = [.ref a] ∧ ((SqL K H1 a xs ∧ R (Ite K a) H1) ∨ (SqT K H1 a xs ∧ R (Itet K a) H1))
theorem pi_enumA {X : Cx} {e : Expr} {ta : TA} {p pos tpos : Pos} {elts : List Expr} {kk : Nat} (hg : Gl X "enumerate") (hm : X.mg "enumerate" = none) (ha : PA X [e] ta) (hs : starEach [e] X.env = [(false, eval e X.env)] := by rfl) :
    PI X (.Tuple elts kk tpos) (.Call (.Name "enumerate" p) [e] [] pos) (iEnumA X.K ta) := by
  refine ⟨fun pins s σ H R I h => ?_⟩
  refine Call_ (ld_blt I hg hm boot_enumerate (PyProof.Rows.callWith_type1 (thn (ha.run pos pins s σ H _ I h) fun us s1 ⟨vs, H1, I1, r1, q1⟩ => ?_) hs rfl))
  obtain ⟨a, xs, ex, q1⟩ := q1
  subst ex
  cases r1 with
  | cons r rr =>
    cases rr
    cases r
    have hfp : ∀ b, b ∈ [s1.heap.objs.size + 1, s1.heap.objs.size] → FpOk X pins H1 b := fun b hb => by
      have e' : b = s1.heap.objs.size + 1 ∨ b = s1.heap.objs.size := by simpa using hb
      have hle : s1.heap.objs.size ≤ b := by
        rcases e' with z | z
        · rw [z]; exact Nat.le_add_right _ _
        · rw [z]; exact Nat.le_refl _
      exact I1.fpOk hle (I1.hok.fresh hle)
    rcases q1 with ⟨hq, q⟩ | ⟨hq, q⟩
    · obtain ⟨its, rv, p', hz⟩ := I1.list hq
      refine call_enumerate_list p'.isList fun h' he hit hsz hk => wpAny_pyIter_enum he ?_
      have I2 : Inv X pins σ H1 { s1 with heap := h' } := I1.kept (t' := s1.toks) hk
      exact ⟨s1.heap.objs.size + 1, [s1.heap.objs.size + 1, s1.heap.objs.size], _, _, H1, rfl, I2, turn_enum a (s1.heap.objs.size + 1) s1.heap.objs.size, ⟨⟨.none, he⟩, hit, Nat.succ_ne_self _⟩, hfp, q⟩
    · obtain ⟨its, rv, p', hz⟩ := I1.tuple hq
      have hal : a < s1.heap.objs.size := by obtain ⟨_, e', _⟩ := p'; exact Heap.lt_size e'
      refine call_enumT p' fun h' he hit hsz hk => wpAny_pyIter_enum he ?_
      have I2 : Inv X pins σ H1 { s1 with heap := h' } := I1.kept (t' := s1.toks) hk
      exact ⟨s1.heap.objs.size + 1, [s1.heap.objs.size + 1, s1.heap.objs.size], _, _, H1, rfl, I2, turn_enumT a (s1.heap.objs.size + 1) s1.heap.objs.size, ⟨⟨.none, he⟩, hit, Nat.succ_ne_self _, Nat.ne_of_lt hal, Nat.ne_of_lt (Nat.lt_succ_of_lt hal)⟩, hfp, q⟩
end Z
end

section
set_option Elab.async false
set_option linter.all false
set_option maxRecDepth 100000
set_option maxHeartbeats 4000000
/-! What is walked. -/
namespace Z
open PySem PySem.Spec PyProof.Rows L2
section
variable {C : Cg} {X : Cx} {P : Pm} {w w1 w2 : Wd} {U : WX} {σ : L2.St} {env : Env} {e a b c o tg it : Expr} {es ts : List Expr} {pos pos' : Pos} {fa fb fc fe : CE} {K : PySem.W.Frag} {xs : List D} {vs : List V} {p : Addr}
theorem jall_lst (z : ZL w.Zf w.H p vs) (r : RDs K C w.Zf w.H xs vs) : JAll K C w xs (Itl K p) := by
  refine jall_same (vs := vs) (fun w' ex => RDs.mono ex _ _ r) (fun w' i x ex h => ⟨⟨vs, x, (z.mono ex).sq, h⟩, fun v H' y => ⟨y.1, ?_⟩⟩) fun w' i ex h => ⟨vs, (z.mono ex).sq, h⟩
  have := y.2 vs (z.mono ex).sq
  rw [h] at this
  exact (Option.some.inj this).symm
theorem jall_tup (z : ZT K w.Zf w.H p vs) (r : RDs K C w.Zf w.H xs vs) : JAll K C w xs (Itt K p) := by
  refine jall_same (vs := vs) (fun w' ex => RDs.mono ex _ _ r) (fun w' i x ex h => ⟨⟨vs, x, (z.mono ex).sq, h⟩, fun v H' y => ⟨y.1, ?_⟩⟩) fun w' i ex h => ⟨vs, (z.mono ex).sq, h⟩
  have := y.2 vs (z.mono ex).sq
  rw [h] at this
  exact (Option.some.inj this).symm
theorem rds_chars {Zf : Addr → Prop} {H : Hp} : ∀ s : List Nat, RDs K C Zf H (s.map fun c => .str [c]) (s.map fun c => vstr [c])
  | [] => RDs.nil
  | c :: s => .cons (rd_str (show 1 ≤ 16777216 by decide)) (rds_chars s)
theorem jall_str (s : List Nat) : JAll K C w (s.map fun c => .str [c]) (Its ⟨s.toArray⟩) := by
  refine jall_same (vs := s.map fun c => vstr [c]) (fun w' ex => rds_chars s) (fun w' i x ex h => ?_) fun w' i ex h => by simpa [Its] using h
  rw [List.getElem?_map] at h
  cases q : s[i]? with
  | none => rw [q] at h; cases h
  | some c =>
    rw [q] at h
    cases h
    have hl := (List.getElem?_eq_some_iff.mp q).1
    refine ⟨by simpa [Its] using hl, fun v H' y => ?_⟩
    obtain ⟨y1, c', y2, y3⟩ := y
    have : s[i]? = some c' := by simpa using y2
    rw [q] at this
    cases this
    exact ⟨y1, y3⟩
theorem rds_rangeC {Zf : Addr → Prop} {H : Hp} (lo c : Int) : ∀ n : Nat, RDs K C Zf H (rangeC lo c n) ((List.range n).map fun (k : Nat) => V.int (lo + (k : Int) * c)) := fun n => by
  unfold rangeC
  generalize List.range n = l
  induction l with
  | nil => exact RDs.nil
  | cons k l ih => exact .cons rd_int ih
theorem range_get {α : Type} {f : Nat → α} {n i : Nat} {x : α} (h : ((List.range n).map f)[i]? = some x) : i < n ∧ x = f i := by
  have hl := (List.getElem?_eq_some_iff.mp h).1
  have hl' : i < n := by simpa using hl
  rw [List.getElem?_map, List.getElem?_range hl'] at h
  exact ⟨hl', (Option.some.inj h).symm⟩
theorem jall_rngC (lo c : Int) (n : Nat) : JAll K C w (rangeC lo c n) (Itc lo c n) := by
  refine jall_same (vs := (List.range n).map fun (k : Nat) => V.int (lo + (k : Int) * c)) (fun w' ex => rds_rangeC lo c n) (fun w' i x ex h => ?_) fun w' i ex h => by simpa [Itc] using h
  obtain ⟨h1, h2⟩ := range_get h
  exact ⟨h1, fun v H' y => ⟨y.1, y.2.trans h2.symm⟩⟩
theorem rangeL_C (lo : Int) (n : Nat) : rangeL lo n = rangeC lo 1 n := by
  unfold rangeL rangeC
  simp
theorem jall_rng (lo : Int) (n : Nat) : JAll K C w (rangeL lo n) (Itr lo n) := by
  rw [rangeL_C]
  refine jall_same (vs := (List.range n).map fun (k : Nat) => V.int (lo + (k : Int) * 1)) (fun w' ex => rds_rangeC lo 1 n) (fun w' i x ex h => ?_) fun w' i ex h => by simpa [Itr] using h
  obtain ⟨h1, h2⟩ := range_get h
  refine ⟨h1, fun v H' y => ⟨y.1, y.2.trans ?_⟩⟩
  rw [h2, Int.mul_one]
theorem numbered_get : ∀ {xs : List D} {k i : Nat} {x : D}, (numbered k xs)[i]? = some x → ∃ y, xs[i]? = some y ∧ x = .tup [.int ((k + i : Nat) : Int), y]
  | [], _, _, _, h => by simp [numbered] at h
  | y :: xs, k, 0, x, h => by
    simp [numbered] at h
    exact ⟨y, rfl, by rw [← h]; rfl⟩
  | y :: xs, k, i + 1, x, h => by
    simp [numbered] at h
    obtain ⟨z, h1, h2⟩ := numbered_get (xs := xs) h
    refine ⟨z, by simpa using h1, ?_⟩
    rw [h2, Nat.add_right_comm, Nat.add_assoc]
theorem numbered_len : ∀ (xs : List D) (k : Nat), (numbered k xs).length = xs.length
  | [], _ => rfl
  | _ :: xs, k => by simp [numbered, numbered_len xs]
theorem pair_new {w' : Wd} {u v : V} {x y : D} {T : Addr} (hT : w'.H T = none) (h1 : RD K C w'.Zf w'.H x u) (h2 : RD K C w'.Zf w'.H y v) : ∀ P, Rel K C P w' → Step K C P w' { w' with H := upd w'.H T (.tup [u, v]) } ∧ RD K C w'.Zf (upd w'.H T (.tup [u, v])) (.tup [x, y]) (.ref T) :=
  fun P R => ⟨step_new R hT _, rd_tup R hT (.cons h1 (.cons h2 .nil))⟩
theorem jall_enumL (z : ZL w.Zf w.H p vs) (r : RDs K C w.Zf w.H xs vs) : JAll K C w (numbered 0 xs) (Ite K p) := fun w' ex i => by
  have r' := RDs.mono ex _ _ r
  have sq : SqL K w'.H p vs := (z.mono ex).sq
  refine ⟨fun x h => ?_, fun h => ⟨vs, sq, by rw [numbered_len] at h; rw [← r.length]; exact h⟩⟩
  obtain ⟨y, h1, rfl⟩ := numbered_get h
  obtain ⟨u, h2, h3⟩ := r'.get h1
  refine ⟨⟨vs, u, sq, h2⟩, fun v H' yl => ?_⟩
  obtain ⟨T, u', rfl, hT, rfl, hu⟩ := yl
  have := hu vs sq
  rw [h2] at this
  cases this
  rw [Nat.zero_add]
  exact pair_new hT rd_int h3
theorem jall_enumT (z : ZT K w.Zf w.H p vs) (r : RDs K C w.Zf w.H xs vs) : JAll K C w (numbered 0 xs) (Itet K p) := fun w' ex i => by
  have r' := RDs.mono ex _ _ r
  have sq : SqT K w'.H p vs := (z.mono ex).sq
  refine ⟨fun x h => ?_, fun h => ⟨vs, sq, by rw [numbered_len] at h; rw [← r.length]; exact h⟩⟩
  obtain ⟨y, h1, rfl⟩ := numbered_get h
  obtain ⟨u, h2, h3⟩ := r'.get h1
  refine ⟨⟨vs, u, sq, h2⟩, fun v H' yl => ?_⟩
  obtain ⟨T, u', rfl, hT, rfl, hu⟩ := yl
  have := hu vs sq
  rw [h2] at this
  cases this
  rw [Nat.zero_add]
  exact pair_new hT rd_int h3
theorem pairs_get : ∀ {xs ys : List D} {i : Nat} {z : D}, (pairs xs ys)[i]? = some z → ∃ x y, xs[i]? = some x ∧ ys[i]? = some y ∧ z = .tup [x, y]
  | [], _, _, _, h => by simp [pairs] at h
  | _ :: _, [], _, _, h => by simp [pairs] at h
  | x :: xs, y :: ys, 0, z, h => by
    simp [pairs] at h
    exact ⟨x, y, rfl, rfl, h.symm⟩
  | x :: xs, y :: ys, i + 1, z, h => by
    simp [pairs] at h
    obtain ⟨u, v, h1, h2, h3⟩ := pairs_get (xs := xs) (ys := ys) h
    exact ⟨u, v, by simpa using h1, by simpa using h2, h3⟩
theorem pairs_len : ∀ (xs ys : List D) (i : Nat), (pairs xs ys).length ≤ i → xs.length ≤ i ∨ ys.length ≤ i
  | [], _, _, _ => .inl (Nat.zero_le _)
  | _ :: _, [], _, _ => .inr (Nat.zero_le _)
  | x :: xs, y :: ys, 0, h => by simp [pairs] at h
  | x :: xs, y :: ys, i + 1, h => by
    simp [pairs] at h
    rcases pairs_len xs ys i h with q | q
    · exact .inl (by simpa using q)
    · exact .inr (by simpa using q)
theorem jall_zipL {q : Addr} {ys : List D} {us : List V} (z : ZL w.Zf w.H p vs) (r : RDs K C w.Zf w.H xs vs) (z2 : ZL w.Zf w.H q us) (r2 : RDs K C w.Zf w.H ys us) : JAll K C w (pairs xs ys) (Itz K p q) := fun w' ex i => by
  have sq : SqL K w'.H p vs := (z.mono ex).sq
  have sq2 : SqL K w'.H q us := (z2.mono ex).sq
  refine ⟨fun x h => ?_, fun h => ⟨vs, us, sq, sq2, by rw [← r.length, ← r2.length]; exact pairs_len _ _ _ h⟩⟩
  obtain ⟨x, y, h1, h2, rfl⟩ := pairs_get h
  obtain ⟨u, e1, k1⟩ := (RDs.mono ex _ _ r).get h1
  obtain ⟨v, e2, k2⟩ := (RDs.mono ex _ _ r2).get h2
  refine ⟨⟨vs, us, u, v, sq, sq2, e1, e2⟩, fun t H' yl => ?_⟩
  obtain ⟨T, u', v', rfl, hT, rfl, hu, hv⟩ := yl
  have q1 := hu vs sq
  have q2 := hv us sq2
  rw [e1] at q1
  rw [e2] at q2
  cases q1
  cases q2
  exact pair_new hT k1 k2
theorem jall_zipT {q : Addr} {ys : List D} {us : List V} (z : ZT K w.Zf w.H p vs) (r : RDs K C w.Zf w.H xs vs) (z2 : ZT K w.Zf w.H q us) (r2 : RDs K C w.Zf w.H ys us) : JAll K C w (pairs xs ys) (RZ.ItzT K p q) := fun w' ex i => by
  have sq : SqT K w'.H p vs := (z.mono ex).sq
  have sq2 : SqT K w'.H q us := (z2.mono ex).sq
  refine ⟨fun x h => ?_, fun h => ⟨vs, us, sq, sq2, by rw [← r.length, ← r2.length]; exact pairs_len _ _ _ h⟩⟩
  obtain ⟨x, y, h1, h2, rfl⟩ := pairs_get h
  obtain ⟨u, e1, k1⟩ := (RDs.mono ex _ _ r).get h1
  obtain ⟨v, e2, k2⟩ := (RDs.mono ex _ _ r2).get h2
  refine ⟨⟨vs, us, u, v, sq, sq2, e1, e2⟩, fun t H' yl => ?_⟩
  obtain ⟨T, u', v', rfl, hT, rfl, hu, hv⟩ := yl
  have q1 := hu vs sq
  have q2 := hv us sq2
  rw [e1] at q1
  rw [e2] at q2
  cases q1
  cases q2
  exact pair_new hT k1 k2
theorem jat_lst : JAt K C p (Itl K p) := fun w' xs vs h r i => by
  refine ⟨fun x hx => ?_, fun hl => ⟨vs, SqL.of h, by rw [← r.length]; exact hl⟩⟩
  obtain ⟨v, e1, r1⟩ := r.get hx
  refine ⟨⟨vs, v, SqL.of h, e1⟩, fun u H' y => ⟨y.1, ?_⟩⟩
  have := y.2 vs (SqL.of h)
  rw [e1] at this
  cases this
  exact r1
/-! ### the judgements -/
theorem SE.goI (ha : SE C X e fa) (tk : Takes X U) (R : Rel X.K C P w) (E : RE X.K C w env σ) {γ δ : Type} {rel2 : Wd → γ → δ → Prop} {k : W → S → RS γ} {Q2 : δ → Hp → Prop} (h : Out X.K C P U σ rel2 w ((fa env w.s).bind k) Q2) {Q : VK}
    (q : ∀ w1 a v, Step X.K C P w w1 → RW X.K C w1 a v → RE X.K C w1 env σ → Out X.K C P U σ rel2 w1 (k a w1.s) Q2 → fa env w.s = .ok a w1.s → Q v w1.H) : EX X e σ w.H Q := by
  refine ha P U w env σ Q tk R E ?_
  cases er : fa env w.s with
  | ok a s =>
    intro w1 es st v ra
    subst es
    rw [er] at h
    exact q w1 a v st ra (E.mono st) (Out.mono st h) er
  | exc x s => rw [er] at h; exact h
  | bad => rw [er] at h; exact h
theorem si_val (ha : SE C X e fa) : SI C X tg e (iVal fa) := by
  intro P U w env σ R tk Rl E h
  have fin : ∀ {w1 : Wd} {J0 : Itm} {J : It}, Rel X.K C P w1 → Out X.K C P U σ (RJ X.K C) w1 (.ok J0 w1.s) R → RJ X.K C w1 J0 J → R J w1.H := fun R1 h1 j => h1 _ rfl (.refl R1) _ j
  cases er : fa env w.s with
  | bad => unfold iVal at h; rw [er] at h; exact h.elim
  | exc x s =>
    unfold iVal at h
    rw [er] at h
    exact ix_of (pi_tup pe_ex) (ha P U w env σ _ tk Rl E (by rw [er]; exact h))
  | ok x s =>
    cases x with
    | ref j =>
      refine ix_of (pi_list pe_ex) (ha.goI tk Rl E h fun w1 x v st ra E1 h1 ex => ?_)
      rw [er] at ex
      cases ex
      dsimp only at h1
      cases q : w1.s.get j with
      | none => rw [q] at h1; exact h1.elim
      | some ob =>
        rw [q] at h1
        cases ob with
        | lst xs =>
          obtain ⟨vs, q1, q2⟩ := st.rel.obj j _ q
          exact ⟨(w1.m j).1, ra.2, ⟨vs, SqL.of q1⟩, fin st.rel h1 ⟨ra.1, jat_lst⟩⟩
        | _ => exact h1.elim
    | d x =>
      cases x with
      | tup xs =>
        refine ix_of (pi_tup pe_ex) (ha.goI tk Rl E h fun w1 x v st ra E1 h1 ex => ?_)
        rw [er] at ex
        cases ex
        have ra' : RD X.K C w1.Zf w1.H (.tup xs) v := ra
        simp only [RD] at ra'
        obtain ⟨p, vs, rfl, g1, g2⟩ := ra'
        exact ⟨p, rfl, ⟨vs, g1.sq⟩, fin (J0 := .all xs) st.rel h1 (jall_tup g1 g2)⟩
      | lst xs =>
        refine ix_of (pi_list pe_ex) (ha.goI tk Rl E h fun w1 x v st ra E1 h1 ex => ?_)
        rw [er] at ex
        cases ex
        have ra' : RD X.K C w1.Zf w1.H (.lst xs) v := ra
        simp only [RD] at ra'
        obtain ⟨p, vs, rfl, g1, g2⟩ := ra'
        exact ⟨p, rfl, ⟨vs, g1.sq⟩, fin (J0 := .all xs) st.rel h1 (jall_lst g1 g2)⟩
      | str t =>
        refine ix_of (pi_str pe_ex) (ha.goI tk Rl E h fun w1 x v st ra E1 h1 ex => ?_)
        rw [er] at ex
        cases ex
        have ra' : RD X.K C w1.Zf w1.H (.str t) v := ra
        simp only [RD] at ra'
        exact ⟨_, ra'.1, fin (J0 := .all _) st.rel h1 (jall_str t)⟩
      | _ => 
        unfold iVal at h
        rw [er] at h
        exact h.elim
theorem si_lst {f : CL} (h0 : SN C X e f) : SI C X tg e (iLst f) := by
  intro P U w env σ R tk Rl E h
  refine ix_of (pi_list pe_ex) (h0 P U w env σ _ tk Rl E ?_)
  unfold iLst at h
  cases q : f env w.s with
  | bad => rw [q] at h; exact h
  | exc x s => rw [q] at h; exact h
  | ok xs s =>
    rw [q] at h
    intro w1 es st vs r p hp
    subst es
    have z := step_new st.rel hp (.lst vs)
    have nz := free_zf st.rel hp
    exact ⟨p, rfl, ⟨vs, SqL.of upd_same⟩, h { w1 with H := upd w1.H p (.lst vs) } rfl (st.trans z) (Itl X.K p) (show JAll X.K C { w1 with H := upd w1.H p (.lst vs) } xs (Itl X.K p) from jall_lst ⟨upd_same, nz⟩ (RDs.mono z.ex _ _ r))⟩
theorem okR_of {i : Int} (h : okR i = true) : -(2 ^ 62) ≤ i ∧ i < 2 ^ 62 := by
  unfold okR at h
  simp only [Bool.and_eq_true, decide_eq_true_eq] at h
  omega
theorem sa_one (ha : SE C X a fa) (he : starEach (a :: []) X.env = (false, eval a X.env) :: starEach [] X.env := by rfl) : SA C X [a] (aCons fa aNil) := sa_cons ha sa_nil he
theorem rw_int' {w : Wd} {i : Int} {v : V} (h : RW K C w (.d (.int i)) v) : v = .int i := by simpa [RW, RD] using h
theorem si_rg1 {q : Pos} (ha : SE C X a fa) (hm : X.mg "range" = none) (hg : Gl X "range" := by rfl) (hs : starEach [a] X.env = [(false, eval a X.env)] := by rfl) : SI C X tg (.Call (.Name "range" q) [a] [] pos) (iRg1 fa) := by
  intro P U w env σ R tk Rl E h
  refine ix_of (pi_range1 hg hm (pa_cons pe_ex pa_nil hs) hs) ?_
  refine ha.go tk Rl E h fun w1 x v st ra E1 h1 => ?_
  cases x with
  | ref _ => exact h1.elim
  | d x =>
    cases x with
    | int j =>
      dsimp only at h1
      split at h1
      · rename_i hj
        obtain rfl := rw_int' ra
        exact ⟨j, rfl, (okR_of hj).1, (okR_of hj).2, h1 _ rfl (.refl st.rel) _ (jall_rng 0 j.toNat)⟩
      · exact h1.elim
    | _ => exact h1.elim
theorem si_rg2 {q : Pos} (ha : SE C X a fa) (hb : SE C X b fb) (hm : X.mg "range" = none) (hg : Gl X "range" := by rfl) (hs : starEach [a, b] X.env = [(false, eval a X.env), (false, eval b X.env)] := by rfl) (hs2 : starEach [b] X.env = [(false, eval b X.env)] := by rfl) : SI C X tg (.Call (.Name "range" q) [a, b] [] pos) (iRg2 fa fb) := by
  intro P U w env σ R tk Rl E h
  refine ix_of (pi_range2 hg hm (pa_cons pe_ex (pa_cons pe_ex pa_nil hs2) (by rw [hs, hs2])) hs hs2) ?_
  refine ha.go tk Rl E h fun w1 x v st ra E1 h1 => ?_
  refine hb.go tk st.rel E1 h1 fun w2 y u st2 rb E2 h2 => ?_
  cases x with
  | ref _ => exact h2.elim
  | d x =>
    cases x with
    | int i =>
      cases y with
      | ref _ => exact h2.elim
      | d y =>
        cases y with
        | int j =>
          dsimp only at h2
          split at h2
          · rename_i hj
            simp only [Bool.and_eq_true] at hj
            obtain rfl := rw_int' ra
            obtain rfl := rw_int' rb
            exact ⟨i, j, rfl, ⟨(okR_of hj.1).1, (okR_of hj.1).2, (okR_of hj.2).1, (okR_of hj.2).2⟩, h2 _ rfl (.refl st2.rel) _ (jall_rng i (j - i).toNat)⟩
          · exact h2.elim
        | _ => exact h2.elim
    | _ => exact h2.elim
theorem turns_eq {i j k : Int} (h : k ≠ 0) : Builtin.Range.rangeSize i j k = (turnsOf i j k : Nat) := by
  unfold turnsOf Builtin.Range.rangeSize
  by_cases h0 : 0 < k
  · rw [if_pos (show k > 0 from h0), if_pos h0]
    by_cases h1 : i < j
    · rw [if_pos h1, if_pos h1]
      have : 0 ≤ (j - i - 1) / k := Int.ediv_nonneg (by omega) (by omega)
      omega
    · rw [if_neg h1, if_neg h1]
      rfl
  · rw [if_neg (show ¬ k > 0 from h0), if_neg h0]
    by_cases h1 : j < i
    · rw [if_pos (show i > j from h1), if_pos h1]
      have : 0 ≤ (i - j - 1) / (-k) := Int.ediv_nonneg (by omega) (by omega)
      omega
    · rw [if_neg (show ¬ i > j from h1), if_neg h1]
      rfl
theorem turns_le {i j k : Int} (h : k ≠ 0) (hi : -(2 ^ 62) ≤ i ∧ i < 2 ^ 62) (hj : -(2 ^ 62) ≤ j ∧ j < 2 ^ 62) : Builtin.Range.rangeSize i j k < 2 ^ 63 ∧ 0 ≤ Builtin.Range.rangeSize i j k := by
  refine ⟨?_, by rw [turns_eq h]; omega⟩
  unfold Builtin.Range.rangeSize
  split
  · split
    · have : (j - i - 1) / k ≤ j - i - 1 := Int.ediv_le_self _ (by omega)
      omega
    · decide
  · split
    · have : (i - j - 1) / (-k) ≤ i - j - 1 := Int.ediv_le_self _ (by omega)
      omega
    · decide
theorem rg_small {i j k : Int} (h : k ≠ 0) (hk : k.natAbs < 1073741824) (hi : -(2 ^ 62) ≤ i ∧ i < 2 ^ 62) (hj : -(2 ^ 62) ≤ j ∧ j < 2 ^ 62) : Builtin.Range.small i j k = true := by
  have := turns_le h hi hj
  unfold Builtin.Range.small
  by_cases h0 : k > 0
  · simp only [Builtin.Range.rangeFitsLong, Bool.and_eq_true, Bool.or_eq_true, decide_eq_true_eq, beq_iff_eq, if_pos h0]
    omega
  · simp only [Builtin.Range.rangeFitsLong, Bool.and_eq_true, Bool.or_eq_true, decide_eq_true_eq, beq_iff_eq, if_neg h0]
    omega
theorem si_rg3 {q : Pos} (ha : SE C X a fa) (hb : SE C X b fb) (hc : SE C X c fc) (hm : X.mg "range" = none) (hg : Gl X "range" := by rfl) (hs : starEach [a, b, c] X.env = (false, eval a X.env) :: starEach [b, c] X.env := by rfl) (hs2 : starEach [b, c] X.env = (false, eval b X.env) :: starEach [c] X.env := by rfl) (hs3 : starEach [c] X.env = (false, eval c X.env) :: starEach [] X.env := by rfl)
    (hpl : (backTo pos (starEach [b, c] X.env)).any (·.1) = false := by rfl) : SI C X tg (.Call (.Name "range" q) [a, b, c] [] pos) (iRg3 fa fb fc) := by
  intro P U w env σ R tk Rl E h
  refine ix_of (pi_range3 hg hm (pa_cons pe_ex (pa_cons pe_ex (pa_cons pe_ex pa_nil hs3) hs2) hs) hs hpl) ?_
  refine ha.go tk Rl E h fun w1 x v st ra E1 h1 => ?_
  refine hb.go tk st.rel E1 h1 fun w2 y u st2 rb E2 h2 => ?_
  refine hc.go tk st2.rel E2 h2 fun w3 z t st3 rc E3 h3 => ?_
  cases x with
  | ref _ => exact h3.elim
  | d x =>
    cases x with
    | int i =>
      cases y with
      | ref _ => exact h3.elim
      | d y =>
        cases y with
        | int j =>
          cases z with
          | ref _ => exact h3.elim
          | d z =>
            cases z with
            | int k =>
              dsimp only at h3
              split at h3
              · rename_i hj
                simp only [Bool.and_eq_true, decide_eq_true_eq] at hj
                obtain rfl := rw_int' ra
                obtain rfl := rw_int' rb
                obtain rfl := rw_int' rc
                obtain ⟨⟨⟨h4, h5⟩, h6⟩, h7⟩ := hj
                exact ⟨i, j, k, turnsOf i j k, rfl, ⟨h6, h7, rg_small h6 h7 (okR_of h4) (okR_of h5), turns_eq h6⟩, h3 _ rfl (.refl st3.rel) _ (jall_rngC i k (turnsOf i j k))⟩
              · exact h3.elim
            | _ => exact h3.elim
        | _ => exact h3.elim
    | _ => exact h3.elim
theorem si_enum {q tpos : Pos} {elts : List Expr} {kk : Nat} (ha : SE C X a fa) (hm : X.mg "enumerate" = none) (hg : Gl X "enumerate" := by rfl) (hs : starEach [a] X.env = [(false, eval a X.env)] := by rfl) : SI C X (.Tuple elts kk tpos) (.Call (.Name "enumerate" q) [a] [] pos) (iEnum fa) := by
  intro P U w env σ R tk Rl E h
  refine ix_of (pi_enumA hg hm (pa_cons pe_ex pa_nil hs) hs) ?_
  refine ha.go tk Rl E h fun w1 x v st ra E1 h1 => ?_
  cases x with
  | ref _ => exact h1.elim
  | d x =>
    cases x with
    | tup xs =>
      have ra' : RD X.K C w1.Zf w1.H (.tup xs) v := ra
      simp only [RD] at ra'
      obtain ⟨p, vs, rfl, g1, g2⟩ := ra'
      exact ⟨p, vs, rfl, .inr ⟨g1.sq, h1 _ rfl (.refl st.rel) _ (jall_enumT g1 g2)⟩⟩
    | lst xs =>
      have ra' : RD X.K C w1.Zf w1.H (.lst xs) v := ra
      simp only [RD] at ra'
      obtain ⟨p, vs, rfl, g1, g2⟩ := ra'
      exact ⟨p, vs, rfl, .inl ⟨g1.sq, h1 _ rfl (.refl st.rel) _ (jall_enumL g1 g2)⟩⟩
    | _ => exact h1.elim
theorem si_zip {q tpos : Pos} {elts : List Expr} {kk : Nat} (ha : SE C X a fa) (hb : SE C X b fb) (hm : X.mg "zip" = none) (hg : Gl X "zip" := by rfl) (hs : starEach [a, b] X.env = (false, eval a X.env) :: starEach [b] X.env := by rfl) (hs2 : starEach [b] X.env = (false, eval b X.env) :: starEach [] X.env := by rfl)
    (hpl : (backTo pos (starEach [b] X.env)).any (·.1) = false := by rfl) : SI C X (.Tuple elts kk tpos) (.Call (.Name "zip" q) [a, b] [] pos) (iZip fa fb) := by
  intro P U w env σ R tk Rl E h
  refine ix_of (RZ.pi_zipA hg hm (pa_cons pe_ex (pa_cons pe_ex pa_nil hs2) hs) hs hpl) ?_
  refine ha.go tk Rl E h fun w1 x v st ra E1 h1 => ?_
  refine hb.go tk st.rel E1 h1 fun w2 y u st2 rb E2 h2 => ?_
  have ra2 := RW.mono st2 ra
  cases x with
  | ref _ => exact h2.elim
  | d x =>
    cases x with
    | tup xs =>
      cases y with
      | ref _ => exact h2.elim
      | d y =>
        cases y with
        | tup ys =>
          have k1 : RD X.K C w2.Zf w2.H (.tup xs) v := ra2
          have k2 : RD X.K C w2.Zf w2.H (.tup ys) u := rb
          simp only [RD] at k1 k2
          obtain ⟨p, vs, rfl, g1, g2⟩ := k1
          obtain ⟨p', us, rfl, g3, g4⟩ := k2
          exact ⟨p, p', vs, us, rfl, .inr ⟨g1.sq, g3.sq, h2 _ rfl (.refl st2.rel) _ (jall_zipT g1 g2 g3 g4)⟩⟩
        | _ => exact h2.elim
    | lst xs =>
      cases y with
      | ref _ => exact h2.elim
      | d y =>
        cases y with
        | lst ys =>
          have k1 : RD X.K C w2.Zf w2.H (.lst xs) v := ra2
          have k2 : RD X.K C w2.Zf w2.H (.lst ys) u := rb
          simp only [RD] at k1 k2
          obtain ⟨p, vs, rfl, g1, g2⟩ := k1
          obtain ⟨p', us, rfl, g3, g4⟩ := k2
          exact ⟨p, p', vs, us, rfl, .inl ⟨g1.sq, g3.sq, h2 _ rfl (.refl st2.rel) _ (jall_zipL g1 g2 g3 g4)⟩⟩
        | _ => exact h2.elim
    | _ => exact h2.elim
/-! ### a list is not changed any more -/
theorem re_frz (R : Rel X.K C P w) (E : RE X.K C w env σ) (i : Nat) : ∃ w', w'.s = (frzV i env w.s).2 ∧ w'.H = w.H ∧ Step X.K C P w w' ∧ RE X.K C w' (frzV i env w.s).1 σ := by
  have none : (frzV i env w.s) = (env, w.s) → ∃ w', w'.s = (frzV i env w.s).2 ∧ w'.H = w.H ∧ Step X.K C P w w' ∧ RE X.K C w' (frzV i env w.s).1 σ := fun q => by
    rw [q]
    exact ⟨w, rfl, rfl, .refl R, E⟩
  cases e1 : env[i]? with
  | none => exact none (by unfold frzV; rw [e1])
  | some x =>
    cases x with
    | none => exact none (by unfold frzV; rw [e1])
    | some x =>
      cases x with
      | d x => exact none (by unfold frzV; rw [e1])
      | ref j =>
        cases q : w.s.get j with
        | none => exact none (by unfold frzV; rw [e1]; dsimp only; rw [q])
        | some ob =>
          have fin : ∀ x : D, frzV i env w.s = (env.set i (some (.d x)), w.s.del j) → (∀ v, RW X.K C w (.ref j) v → RD X.K C (fun a => w.Zf a ∧ a ∉ foot (w.m j) ob) w.H x v) → ∃ w', w'.s = (frzV i env w.s).2 ∧ w'.H = w.H ∧ Step X.K C P w w' ∧ RE X.K C w' (frzV i env w.s).1 σ := fun x ef hx => by
            have st := step_del R q
            rw [ef]
            refine ⟨⟨fun a => w.Zf a ∧ a ∉ foot (w.m j) ob, w.m, w.s.del j, w.H⟩, rfl, rfl, st, ?_⟩
            obtain ⟨v, e2, r2⟩ := E.at_ i _ e1
            have E2 := E.mono st
            refine ⟨by simp [E2.len], fun l y hy => ?_⟩
            by_cases hl : l = i
            · subst hl
              rw [List.getElem?_set_self (List.getElem?_eq_some_iff.mp e1).1] at hy
              obtain rfl : W.d x = y := by simpa using hy
              exact ⟨v, e2, hx v r2⟩
            · rw [List.getElem?_set_ne (Ne.symm hl)] at hy
              exact E2.at_ l y hy
          have ex : Ex w.Zf w.H (fun a => w.Zf a ∧ a ∉ foot (w.m j) ob) w.H := ⟨fun _ _ h _ => h, fun a h => .inl h.1⟩
          cases ob with
          | lst xs =>
            refine fin (.lst xs) (by unfold frzV; rw [e1]; dsimp only; rw [q]) fun v hv => ?_
            obtain ⟨vs, q1, q2⟩ := R.obj j _ q
            simp only [RD]
            exact ⟨_, vs, hv.2, ⟨q1, fun z => z.2 (by simp [foot])⟩, RDs.mono ex _ _ q2⟩
          | dic ks xs =>
            refine fin (.dic ks xs) (by unfold frzV; rw [e1]; dsimp only; rw [q]) fun v hv => ?_
            obtain ⟨vs, q1, q2, q3⟩ := R.obj j _ q
            simp only [RD]
            exact ⟨_, vs, hv.2, q1, fun z => z.2 (by simp [foot]), q2, RDs.mono ex _ _ q3⟩
          | ins c fs => exact none (by unfold frzV; rw [e1]; dsimp only; rw [q])
theorem sss_frz {sts : List Stmt} {f : CS} (i : Nat) (h0 : SSs C X sts f) : SSs C X sts (sFrz i f) := by
  intro P U w env σ D tk R E h
  obtain ⟨w', e1, e2, st, E'⟩ := re_frz (X := X) R E i
  rw [← e2]
  refine h0 P U w' _ σ D tk st.rel E' (OutF.mono st ?_)
  rw [e1]
  exact h
end
end Z
end

section
set_option Elab.async false
set_option linter.all false
set_option maxRecDepth 100000
set_option maxHeartbeats 4000000
/-! Calls of the program's own defs. -/
namespace Z
open PySem PySem.Spec PyProof.Rows L2

/-- a world without a store -/
def wd0 (Zf : Addr → Prop) (H : Hp) : Wd := ⟨Zf, fun _ => (0, 0), S.nil, H⟩
def pm0 (Zf : Addr → Prop) (H : Hp) : Pm := ⟨H, fun _ => False, Zf⟩
theorem rel0 {K C} {Zf : Addr → Prop} {H : Hp} (z : ∀ a, Zf a → ∃ o, H a = some o) : Rel K C (pm0 Zf H) (wd0 Zf H) where
  obj := fun i o h => by cases h
  own := fun i o h => by cases h
  inj := fun i j o u h => by cases h
  zc := fun a h => h
  zin := z
  keep := fun a o h _ => h
  lt := fun i o h => by cases h
/-- the promise of a def that changes nothing -/
def spP (K : PySem.W.Frag) (C : Cg) (n : Nat) (f : List D → R D) : Sp := fun vs H Q E => vs.length = n ∧ ∃ (Zf : Addr → Prop) (xs : List D), (∀ a, Zf a → ∃ o, H a = some o) ∧ RDs K C Zf H xs vs ∧ (match f xs with
  | .ok y => ∀ H' v, (∀ a o, H a = some o → H' a = some o) → RD K C Zf H' y v → Q v H'
  | .exc x => ∀ H' c o, (∀ a u, H a = some u → H' a = some u) → XR K C (wd0 Zf H') x c o → E c o H'
  | .bad => False)
/-- .. of one that may -/
def spI (K : PySem.W.Frag) (C : Cg) (n : Nat) (f : List W → S → RS W) : Sp := fun vs H Q E => vs.length = n ∧ ∃ (P : Pm) (w : Wd) (ws : List W), w.H = H ∧ Rel K C P w ∧ RWs K C w ws vs ∧ (match f ws w.s with
  | .ok y s => ∀ w', w'.s = s → Step K C P w w' → ∀ v, RW K C w' y v → Q v w'.H
  | .exc x s => ∀ w', w'.s = s → Step K C P w w' → ∀ c o, XR K C w' x c o → E c o w'.H
  | .bad => False)
section
variable {K : PySem.W.Frag} {C : Cg} {P : Pm} {w w1 : Wd} {Zf Zf' : Addr → Prop} {H H' : Hp}
theorem XR.sub {x : Exn} {c : Value} {o : Option Addr} (z : ∀ a, Zf a → w.Zf a) (h : XR K C w x c o) : XR K C (wd0 Zf w.H) x c o :=
  ⟨h.1, fun f e => let ⟨d, v, e1, e2, e3, e4⟩ := h.2 f e; ⟨d, v, e1, e2, fun q => e3 (z _ q), RD.mono ⟨fun _ _ h _ => h, fun a q => .inl (z a q)⟩ _ _ e4⟩⟩
theorem RWs.length : ∀ {ws : List W} {vs : List V}, RWs K C w ws vs → ws.length = vs.length
  | [], vs, h => by
    cases (show vs = [] from h)
    rfl
  | x :: ws, vs, h => by
    obtain ⟨v, r, rfl, _, h2⟩ := h
    simp [RWs.length h2]
theorem RWs.get : ∀ {ws : List W} {vs : List V} {i : Nat} {x : W}, RWs K C w ws vs → ws[i]? = some x → ∃ v, vs[i]? = some v ∧ RW K C w x v
  | [], _, _, _, _, e => by simp at e
  | y :: ws, vs, i, x, h, e => by
    obtain ⟨v, r, rfl, h1, h2⟩ := h
    cases i with
    | zero =>
      obtain rfl : y = x := by simpa using e
      exact ⟨v, rfl, h1⟩
    | succ i =>
      obtain ⟨u, q1, q2⟩ := RWs.get h2 (i := i) (by simpa using e)
      exact ⟨u, by simpa using q1, q2⟩
theorem re_start {N : List Str} {ws : List W} {vs : List V} (h : RWs K C w ws vs) (hl : vs.length ≤ N.length) : RE K C w (start N.length ws) (L2.start N vs) := by
  have hlen := h.length
  refine ⟨by simp [start, L2.start, hlen], fun i x e => ?_⟩
  unfold start at e
  unfold L2.start
  by_cases hi : i < ws.length
  · rw [List.getElem?_append_left (by simpa using hi), List.getElem?_map] at e
    cases q : ws[i]? with
    | none => rw [q] at e; cases e
    | some y =>
      rw [q] at e
      obtain rfl : y = x := by simpa using e
      obtain ⟨v, e1, e2⟩ := h.get q
      exact ⟨v, by rw [List.getElem?_append_left (by simpa [← hlen] using hi), List.getElem?_map, e1]; rfl, e2⟩
  · rw [List.getElem?_append_right (by simpa using hi), List.getElem?_replicate] at e
    split at e <;> simp at e
end
/-- a body is simulated in every run of its def -/
def Body (P : Program) (w : World) (K : PySem.W.Frag) (mg : Str → Option Value) (base : Heap) (C : Cg) (k : Nat) (N : List Str) (qual : Str) (scope : Scope) (f : Addr) (body : List Stmt) (b : CS) : Prop :=
  ∀ (cdv : Value) (A : Around) (outer : List PySem.Env) (s : Shared) (H : Hp) (E : XK), Room k (A.deeper (envOfC qual scope s.heap.objs.size f cdv)) → SSs C (cxOf (L2.CX P w) P w K mg base N qual scope f cdv A outer s H E) body b
section
variable {P : Program} {w : World} {K : PySem.W.Frag} {mg : Str → Option Value} {base : Heap} {C : Cg} {x qual : Str} {params : Arguments} {body : List Stmt} {scope : Scope} {f : Addr} {fd : FuncData} {N ps : List Str} {k n : Nat} {b : CS} {dvs : List V} {kws : List (Str × V)}
theorem pre_len (S : FnScope N ps scope) : ps.length ≤ N.length := by have := congrArg List.length S.pre; rw [List.length_take] at this; omega
theorem ok_P (F : FunD K x qual params body scope dvs kws f fd) (S : FnScope N ps scope) (B : Body P w K mg base C k N qual scope f body b) : FnOk P w K mg base (L2.CX P w) (k + 1) f fd ps (spP K C ps.length (runP b N.length ps.length)) := by
  refine F.ok S (fun vs H Q E h => h.1) fun cdv A outer s H vs Q E hr h => ⟨_, pss_sx, ?_⟩
  obtain ⟨hl, Zf, xs, z, r, h⟩ := h
  have R := rel0 (K := K) (C := C) z
  have rw0 : RWs K C (wd0 Zf H) (xs.map .d) vs := RDs.ws r
  have hx : xs.length = ps.length := r.length.trans hl
  refine B cdv A outer s H E hr (pm0 Zf H) _ (wd0 Zf H) (start N.length (xs.map .d)) (L2.start N vs) _ (takes_of (E := E) rfl rfl rfl rfl) R (re_start rw0 (by rw [hl]; exact pre_len S)) ?_
  unfold runP at h
  rw [if_pos hx] at h
  show OutF K C (pm0 Zf H) _ (wd0 Zf H) (b (start N.length (xs.map .d)) Z.S.nil) _
  have sub : ∀ {w' : Wd}, Step K C (pm0 Zf H) (wd0 Zf H) w' → (∀ a o, H a = some o → w'.H a = some o) ∧ ∀ y v, RD K C w'.Zf w'.H y v → RD K C Zf w'.H y v := fun {w'} st =>
    ⟨fun a o e => st.rel.keep a o e (fun q => q), fun y v q => RD.mono ⟨fun _ _ h _ => h, fun a q => .inl (st.rel.zc a q)⟩ _ _ q⟩
  cases er : b (start N.length (xs.map .d)) Z.S.nil with
  | nx e s1 =>
    rw [er] at h
    intro w' es st σ' E'
    obtain ⟨k1, k2⟩ := sub st
    exact h w'.H .non k1 (by simp only [RD])
  | brk e s1 => rw [er] at h; exact h.elim
  | cnt e s1 => rw [er] at h; exact h.elim
  | ret y s1 =>
    rw [er] at h
    cases y with
    | ref _ => exact h.elim
    | d y =>
      intro w' es st v rv
      obtain ⟨k1, k2⟩ := sub st
      exact h w'.H v k1 (k2 y v rv)
  | exc e e1 s1 =>
    rw [er] at h
    intro w' es st c o xr σ' E'
    obtain ⟨k1, k2⟩ := sub st
    exact h w'.H c o k1 (XR.sub (fun a q => st.rel.zc a q) xr)
  | bad => rw [er] at h; exact h.elim
theorem ok_I (F : FunD K x qual params body scope dvs kws f fd) (S : FnScope N ps scope) (B : Body P w K mg base C k N qual scope f body b) : FnOk P w K mg base (L2.CX P w) (k + 1) f fd ps (spI K C ps.length (runI b N.length ps.length)) := by
  refine F.ok S (fun vs H Q E h => h.1) fun cdv A outer s H vs Q E hr h => ⟨_, pss_sx, ?_⟩
  obtain ⟨hl, Pm, w0, ws, rfl, R, rw0, h⟩ := h
  have hx : ws.length = ps.length := rw0.length.trans hl
  refine B cdv A outer s w0.H E hr Pm _ w0 (start N.length ws) (L2.start N vs) _ (takes_of (E := E) rfl rfl rfl rfl) R (re_start rw0 (by rw [hl]; exact pre_len S)) ?_
  unfold runI at h
  rw [if_pos hx] at h
  show OutF K C Pm _ w0 (b (start N.length ws) w0.s) _
  cases er : b (start N.length ws) w0.s with
  | nx e s1 =>
    rw [er] at h
    intro w' es st σ' E'
    subst es
    have sw := step_sweep st.rel w0.s.nx (.d .non)
    exact h _ rfl (st.trans sw) .non (show RD K C w'.Zf w'.H .non .non by simp only [RD])
  | brk e s1 => rw [er] at h; exact h.elim
  | cnt e s1 => rw [er] at h; exact h.elim
  | ret y s1 =>
    rw [er] at h
    intro w' es st v rv
    subst es
    have sw := step_sweep st.rel w0.s.nx y
    exact h _ rfl (st.trans sw) v (RW.mono sw rv)
  | exc e e1 s1 =>
    rw [er] at h
    intro w' es st c o xr σ' E'
    subst es
    have sw := step_sweep st.rel w0.s.nx (.d .non)
    exact h _ rfl (st.trans sw) c o (xr.mono sw)
  | bad => rw [er] at h; exact h.elim
end
end Z
end

section
set_option Elab.async false
set_option linter.all false
set_option maxRecDepth 100000
set_option maxHeartbeats 4000000
/-! Calls of the program's own defs, the caller's side. -/
namespace Z
open PySem PySem.Spec PyProof.Rows L2

/-- a def by its name keeps a promise -/
structure FQ (P : Program) (w : World) (K : PySem.W.Frag) (mg : Str → Option Value) (base : Heap) (x : Str) (k : Nat) (sp : Sp) : Prop where
  ex : ∃ fa fd ps, mg x = some (.ref fa) ∧ PySem.W.keepIn K (.ref fa) = true ∧ Binds K fd ps [] ∧ FnOk P w K mg base (L2.CX P w) k fa fd ps sp
theorem FQ.mono {P w K mg base x j k sp} (F : FQ P w K mg base x j sp) (h : j ≤ k) : FQ P w K mg base x k sp :=
  let ⟨fa, fd, ps, a, b, c, d⟩ := F.ex; ⟨fa, fd, ps, a, b, c, d.mono h⟩
/-- it asks for that many values -/
def AskP (n : Nat) (f : List D → R D) : Prop := ∀ xs, f xs = .bad ∨ xs.length = n
def AskI (n : Nat) (f : List W → S → RS W) : Prop := ∀ ws s, f ws s = .bad ∨ ws.length = n
theorem ask_P {b : CS} {n k : Nat} : AskP k (runP b n k) := fun xs => by
  unfold runP
  split
  · exact .inr ‹_›
  · exact .inl rfl
theorem ask_I {b : CS} {n k : Nat} : AskI k (runI b n k) := fun xs s => by
  unfold runI
  split
  · exact .inr ‹_›
  · exact .inl rfl
section
variable {C : Cg} {X : Cx} {P : Pm} {w w1 w2 : Wd} {U : WX} {σ : L2.St} {H : Hp} {Q : VK} {env : Env} {e a b c o : Expr} {es : List Expr} {p pos pos' apos : Pos} {fa fb fc fe : CE} {ga : CA} {K : PySem.W.Frag} {x : Str} {k n : Nat} {sp : Sp} {g : Addr}
theorem run_fnS {pins : List (Addr × Obj)} {s : Shared} {us ds : List Value} {vs dvs : List V} {f : Addr} {fd : FuncData} {ps : List Str} (F : FnOk X.prog X.w X.K X.mg X.base (L2.CX X.prog X.w) k f fd ps sp) (hr : Room k X.A) (hb : Binds X.K fd ps ds) (hd : Vals dvs ds) (tk : Takes X U)
    (I : Inv X pins σ H s) (r : Vals vs us) (h : sp (vs ++ dvs) H Q (fun c d H' => U c d σ H')) : wpAny (model X.prog X.w) X.A (call (.ref f) us) (EP X pins σ Q) X.xe s := by
  have r2 : Vals (vs ++ dvs) (us ++ ds) := r.append hd
  have hl : (us ++ ds).length = ps.length := by rw [← r2.length]; exact F.len _ _ _ _ h
  refine wpAny_call (codeAny_mono (F.run X.A X.stack s H ⟨us, []⟩ (us ++ ds) (vs ++ dvs) Q _ hr I.env0 (hb s us I.kIn hl) r2 h) fun r s' hq => ?_)
  cases r with
  | error e => exact tk e s' (XE.of_call I (fun cls d H' h => h) hq)
  | ok fl =>
    cases fl with
    | ret u => exact I.after hq
    | next => exact False.elim hq
    | brk => exact False.elim hq
    | cont => exact False.elim hq
theorem ex_call (F : FQ X.prog X.w X.K X.mg X.base x k sp) (hr : Room k X.A) (tk : Takes X U) (h : AX X (e :: es) σ H fun vs H1 => sp vs H1 Q (fun c d H' => U c d σ H')) (hg : Gl X x := by rfl) (hdb : (x == ("__debug__" : Str)) = false := by decide) (he : starEach (e :: es) X.env = (false, eval e X.env) :: starEach es X.env := by rfl)
    (hpl : (backTo pos (starEach es X.env)).any (·.1) = false := by rfl) : EX X (.Call (.Name x p) (e :: es) [] pos) σ H Q := by
  obtain ⟨fa, fd, ps, hm, hk, hb, F⟩ := F.ex
  intro pins s I
  refine wpAny_Call_Name_kw (ld_glob I hg hm ?_ hdb)
  refine PySem.W.callWith_K (h₀ := X.base) I.ok.mod.kin hk (thn (pa_ax.run pos pins s σ H _ I h) fun us s1 ⟨vs, H1, I1, r, q⟩ => ⟨I1.kIn, ?_⟩) he hpl
  exact run_fnS F hr hb .nil tk I1 r (by simpa using q)
theorem ex_call0 (F : FQ X.prog X.w X.K X.mg X.base x k sp) (hr : Room k X.A) (tk : Takes X U) (h : sp [] H Q (fun c d H' => U c d σ H')) (hg : Gl X x := by rfl) (hdb : (x == ("__debug__" : Str)) = false := by decide) : EX X (.Call (.Name x p) [] [] pos) σ H Q := by
  obtain ⟨fa, fd, ps, hm, hk, hb, F⟩ := F.ex
  intro pins s I
  refine wpAny_Call_Name_kw (ld_glob I hg hm ?_ hdb)
  exact PySem.W.callWith_K0 I.kIn hk (run_fnS (us := []) F hr hb .nil tk I .nil (by simpa using h))
/-! ### values for a def that changes nothing -/
theorem anyRef_no : ∀ {ws : List W}, anyRef ws = false → ∀ i, W.ref i ∉ ws
  | [], _, _, h => by cases h
  | .d _ :: r, e, i, h => by
    rcases List.mem_cons.mp h with z | z
    · cases z
    · exact anyRef_no (ws := r) e i z
  | .ref _ :: _, e, _, _ => by cases e
mutual
theorem RD.widen {Zf Zf' : Addr → Prop} {H : Hp} (z : ∀ a, Zf' a → Zf a ∨ (∃ vs, H a = some (.lst vs)) ∨ ∃ ps, H a = some (.dK ps)) : ∀ (x : D) (v : V), noLst x = true → RD K C Zf H x v → RD K C Zf' H x v
  | .non, v, _, h => by simpa only [RD] using h
  | .bl b, v, _, h => by simpa only [RD] using h
  | .int b, v, _, h => by simpa only [RD] using h
  | .str b, v, _, h => by simpa only [RD] using h
  | .lck _, _, n, _ => by simp [noLst] at n
  | .lst _, _, n, _ => by simp [noLst] at n
  | .dic _ _, _, n, _ => by simp [noLst] at n
  | .tup xs, v, n, h => by
    simp only [RD] at h ⊢
    obtain ⟨a, vs, rfl, h1, h2⟩ := h
    refine ⟨a, vs, rfl, ?_, RDs.widen z xs vs (by simpa [noLst] using n) h2⟩
    rcases h1 with ⟨h1, h3⟩ | h1
    · refine .inl ⟨h1, fun q => ?_⟩
      rcases z a q with z | ⟨us, z⟩ | ⟨us, z⟩
      · exact h3 z
      · rcases h1 with h1 | ⟨o, h1⟩ <;> (rw [h1] at z; cases z)
      · rcases h1 with h1 | ⟨o, h1⟩ <;> (rw [h1] at z; cases z)
    · exact .inr h1
  | .obj c xs, v, n, h => by
    simp only [RD] at h ⊢
    obtain ⟨a, dx, vs, rfl, h0, h1, h2, h3, h4, h5⟩ := h
    refine ⟨a, dx, vs, rfl, h0, h1, h2, fun q => ?_, fun q => ?_, RDs.widen z xs vs (by simpa [noLst] using n) h5⟩
    · rcases z a q with z | ⟨us, z⟩ | ⟨us, z⟩
      · exact h3 z
      · rw [h1] at z
        unfold SlX.SlO at z
        cases z
      · rw [h1] at z
        unfold SlX.SlO at z
        cases z
    · rcases z dx q with z | ⟨us, z⟩ | ⟨us, z⟩
      · exact h4 z
      · rw [h2] at z
        cases z
      · rw [h2] at z
        cases z
theorem RDs.widen {Zf Zf' : Addr → Prop} {H : Hp} (z : ∀ a, Zf' a → Zf a ∨ (∃ vs, H a = some (.lst vs)) ∨ ∃ ps, H a = some (.dK ps)) : ∀ (xs : List D) (vs : List V), noLsts xs = true → RDs K C Zf H xs vs → RDs K C Zf' H xs vs
  | [], vs, _, h => by simpa only [RDs] using h
  | x :: xs, vs, n, h => by
    simp only [RDs] at h ⊢
    simp only [noLsts, Bool.and_eq_true] at n
    obtain ⟨v, r, rfl, h1, h2⟩ := h
    exact ⟨v, r, rfl, RD.widen z x v n.1 h1, RDs.widen z xs r n.2 h2⟩
end
/-- without what is looked at -/
def lessZ (w : Wd) (ws : List W) : Addr → Prop := fun a => w.Zf a ∧ ∀ i, W.ref i ∈ ws → a ≠ (w.m i).1
theorem view_rd (R : Rel K C P w) {w0 : List W} : ∀ {ws : List W} {vs : List V} {xs : List D}, (∀ x ∈ ws, x ∈ w0) → RWs K C w ws vs → viewAll ws w.s = some xs → RDs K C (lessZ w w0) w.H xs vs
  | [], vs, xs, _, h, e => by
    cases e
    cases (show vs = [] from h)
    exact .nil
  | x :: r, vs, xs, hs, h, e => by
    obtain ⟨v, us, rfl, h1, h2⟩ := h
    unfold viewAll at e
    cases q1 : view x w.s with
    | none => rw [q1] at e; cases e
    | some d =>
      cases q : viewAll r w.s with
      | none => rw [q1, q] at e; cases e
      | some ys =>
        rw [q1, q] at e
        cases e
        have ex : Ex w.Zf w.H (lessZ w w0) w.H := ⟨fun _ _ h _ => h, fun a q => .inl q.1⟩
        refine .cons ?_ (view_rd R (fun y hy => hs y (List.mem_cons_of_mem _ hy)) h2 q)
        cases x with
        | d x =>
          cases q1
          exact RD.mono ex _ _ h1
        | ref i =>
          have hm : W.ref i ∈ w0 := hs _ List.mem_cons_self
          unfold view at q1
          dsimp only at q1
          cases e3 : w.s.get i with
          | none => rw [e3] at q1; cases q1
          | some ob =>
            rw [e3] at q1
            cases ob with
            | lst zs =>
              cases q1
              obtain ⟨us, k1, k2⟩ := R.obj i _ e3
              simp only [RD]
              exact ⟨_, us, h1.2, ⟨k1, fun z => z.2 i hm rfl⟩, RDs.mono ex _ _ k2⟩
            | dic ks zs =>
              cases q1
              obtain ⟨us, k1, k2, k3⟩ := R.obj i _ e3
              simp only [RD]
              exact ⟨_, us, h1.2, k1, fun z => z.2 i hm rfl, k2, RDs.mono ex _ _ k3⟩
            | ins c fs => cases q1
theorem viewed (R : Rel K C P w) : ∀ {ws : List W} {xs : List D} {i : Nat}, viewAll ws w.s = some xs → W.ref i ∈ ws → (∃ vs, w.H (w.m i).1 = some (.lst vs)) ∨ ∃ ps, w.H (w.m i).1 = some (.dK ps)
  | [], _, _, _, h => by cases h
  | x :: r, xs, i, e, h => by
    unfold viewAll at e
    cases q1 : view x w.s with
    | none => rw [q1] at e; cases e
    | some d =>
      cases q : viewAll r w.s with
      | none => rw [q1, q] at e; cases e
      | some ys =>
        rcases List.mem_cons.mp h with z | z
        · subst z
          unfold view at q1
          dsimp only at q1
          cases e3 : w.s.get i with
          | none => rw [e3] at q1; cases q1
          | some ob =>
            cases ob with
            | lst zs =>
              obtain ⟨us, k1, k2⟩ := R.obj i _ e3
              exact .inl ⟨us, k1⟩
            | dic ks zs =>
              obtain ⟨us, k1, k2, k3⟩ := R.obj i _ e3
              exact .inr ⟨_, k1⟩
            | ins c fs => rw [e3] at q1; cases q1
        · exact viewed R q z
theorem callP_sp {f : List D → R D} (R : Rel X.K C P w) (q : AskP n f) {ws : List W} {vs : List V} (r : RWs X.K C w ws vs) (h : Out X.K C P U σ (RW X.K C) w (match viewAll ws w.s with
  | some xs => match f xs with
    | .ok y => if anyRef ws && !noLst y then .bad else .ok (.d y) w.s
    | .exc x => if anyRef ws && !noLst x.a then .bad else .exc x w.s
    | .bad => .bad
  | none => .bad) Q) : spP X.K C n f vs w.H Q (fun c d H' => U c d σ H') := by
  cases e1 : viewAll ws w.s with
  | none => rw [e1] at h; exact h.elim
  | some xs =>
    rw [e1] at h
    dsimp only at h
    have rd := view_rd R (fun _ h => h) r e1
    have hl : vs.length = n := by
      rcases q xs with z | z
      · rw [z] at h; exact h.elim
      · rw [← z]; exact rd.length.symm
    refine ⟨hl, lessZ w ws, xs, fun a z => R.zin a z.1, rd, ?_⟩
    have wide : ∀ {H' : Hp} {y : D} {v : V}, (∀ a o, w.H a = some o → H' a = some o) → (anyRef ws && !noLst y) = false → RD X.K C (lessZ w ws) H' y v → RD X.K C w.Zf H' y v := fun {H' y v} hs hy hr => by
      cases ha : anyRef ws with
      | false => exact RD.mono ⟨fun _ _ h _ => h, fun a z => .inl ⟨z, fun i hi => absurd hi (anyRef_no ha i)⟩⟩ _ _ hr
      | true =>
        rw [ha, Bool.true_and, Bool.not_eq_false'] at hy
        refine RD.widen (fun a z => ?_) y v hy hr
        by_cases hz : ∀ i, W.ref i ∈ ws → a ≠ (w.m i).1
        · exact .inl ⟨z, hz⟩
        · obtain ⟨i, hz⟩ := Classical.not_forall.mp hz
          obtain ⟨hi, hz⟩ := Classical.not_imp.mp hz
          have hz : a = (w.m i).1 := Classical.not_not.mp hz
          subst hz
          rcases viewed R e1 hi with ⟨us, k⟩ | ⟨us, k⟩
          · exact .inr (.inl ⟨us, hs _ _ k⟩)
          · exact .inr (.inr ⟨us, hs _ _ k⟩)
    cases e2 : f xs with
    | bad => rw [e2] at h; exact h.elim
    | ok y =>
      rw [e2] at h
      dsimp only at h ⊢
      split at h
      · exact h.elim
      · rename_i hy
        have hy : (anyRef ws && !noLst y) = false := by simpa using hy
        intro H' v hs hv
        exact h { w with H := H' } rfl (step_same R hs) v (wide hs hy hv)
    | exc x =>
      rw [e2] at h
      dsimp only at h ⊢
      split at h
      · exact h.elim
      · rename_i hy
        have hy : (anyRef ws && !noLst x.a) = false := by simpa using hy
        intro H' c o hs xr
        refine h { w with H := H' } rfl (step_same R hs) c o ⟨xr.1, fun f e => ?_⟩
        obtain ⟨d, v, k1, k2, k3, k4⟩ := xr.2 f e
        refine ⟨d, v, k1, k2, fun z => ?_, wide hs hy k4⟩
        by_cases hz : ∀ i, W.ref i ∈ ws → d ≠ (w.m i).1
        · exact k3 ⟨z, hz⟩
        · obtain ⟨i, hz⟩ := Classical.not_forall.mp hz
          obtain ⟨hi, hz⟩ := Classical.not_imp.mp hz
          have hz : d = (w.m i).1 := Classical.not_not.mp hz
          subst hz
          rcases viewed R e1 hi with ⟨us, k⟩ | ⟨us, k⟩
          · cases (hs _ _ k).symm.trans k2
          · cases (hs _ _ k).symm.trans k2
theorem se_callP {f : List D → R D} (F : FQ X.prog X.w X.K X.mg X.base x k (spP X.K C n f)) (q : AskP n f) (hr : Room k X.A) (ha : SA C X (e :: es) ga) (hg : Gl X x := by rfl) (hdb : (x == ("__debug__" : Str)) = false := by decide) (he : starEach (e :: es) X.env = (false, eval e X.env) :: starEach es X.env := by rfl)
    (hpl : (backTo pos (starEach es X.env)).any (·.1) = false := by rfl) : SE C X (.Call (.Name x p) (e :: es) [] pos) (cCallP f ga) := fun P U w env σ Q tk R E h =>
  ex_call F hr tk (ha.go tk R E h fun w1 ws vs st rs E1 h1 => callP_sp st.rel q rs h1) hg hdb he hpl
theorem se_callP0 {f : List D → R D} (F : FQ X.prog X.w X.K X.mg X.base x k (spP X.K C n f)) (q : AskP n f) (hr : Room k X.A) (hg : Gl X x := by rfl) (hdb : (x == ("__debug__" : Str)) = false := by decide) : SE C X (.Call (.Name x p) [] [] pos) (cCallP f aNil) := fun P U w env σ Q tk R E h =>
  ex_call0 F hr tk (callP_sp (ws := []) R q rfl h) hg hdb
theorem callI_sp {f : List W → S → RS W} (R : Rel X.K C P w) (q : AskI n f) {ws : List W} {vs : List V} (r : RWs X.K C w ws vs) (h : Out X.K C P U σ (RW X.K C) w (f ws w.s) Q) : spI X.K C n f vs w.H Q (fun c d H' => U c d σ H') := by
  have hl : vs.length = n := by
    rcases q ws w.s with z | z
    · rw [z] at h; exact h.elim
    · rw [← z]; exact r.length.symm
  refine ⟨hl, P, w, ws, rfl, R, r, ?_⟩
  cases e2 : f ws w.s with
  | bad => rw [e2] at h; exact h.elim
  | ok y s => rw [e2] at h; exact fun w' es st v hv => h w' es st v hv
  | exc x s => rw [e2] at h; exact fun w' es st c o xr => h w' es st c o xr
theorem se_callI {f : List W → S → RS W} (F : FQ X.prog X.w X.K X.mg X.base x k (spI X.K C n f)) (q : AskI n f) (hr : Room k X.A) (ha : SA C X (e :: es) ga) (hg : Gl X x := by rfl) (hdb : (x == ("__debug__" : Str)) = false := by decide) (he : starEach (e :: es) X.env = (false, eval e X.env) :: starEach es X.env := by rfl)
    (hpl : (backTo pos (starEach es X.env)).any (·.1) = false := by rfl) : SE C X (.Call (.Name x p) (e :: es) [] pos) (cCallI f ga) := fun P U w env σ Q tk R E h =>
  ex_call F hr tk (ha.go tk R E h fun w1 ws vs st rs E1 h1 => callI_sp st.rel q rs h1) hg hdb he hpl
theorem se_callI0 {f : List W → S → RS W} (F : FQ X.prog X.w X.K X.mg X.base x k (spI X.K C n f)) (q : AskI n f) (hr : Room k X.A) (hg : Gl X x := by rfl) (hdb : (x == ("__debug__" : Str)) = false := by decide) : SE C X (.Call (.Name x p) [] [] pos) (cCallI f aNil) := fun P U w env σ Q tk R E h =>
  ex_call0 F hr tk (callI_sp (ws := []) R q rfl h) hg hdb
end
/-! ### instances -/
structure MQ (P : Program) (w : World) (K : PySem.W.Frag) (mg : Str → Option Value) (base : Heap) (x : Str) (C : Addr) (k : Nat) (sp : Sp) : Prop where
  ex : ∃ fa fd ps, mg x = some (.ref C) ∧ Mk K C fa ∧ Binds K fd ps [] ∧ FnOk P w K mg base (L2.CX P w) k fa fd ps sp
theorem MQ.mono {P w K mg base x C j k sp} (F : MQ P w K mg base x C j sp) (h : j ≤ k) : MQ P w K mg base x C k sp :=
  let ⟨fa, fd, ps, a, b, c, d⟩ := F.ex; ⟨fa, fd, ps, a, b, c, d.mono h⟩
/-- a property -/
structure PQ (P : Program) (w : World) (K : PySem.W.Frag) (mg : Str → Option Value) (base : Heap) (C : Addr) (f : Str) (k : Nat) (sp : Sp) : Prop where
  ex : ∃ p g, PySem.W.findIn K (.ref C) f = some (some (.ref p)) ∧ PySem.W.specialIn K (.ref p) "__get__" = some (some (.builtin "property.__get__")) ∧ PySem.W.takesIn K (.ref p) = some true ∧ (∃ rest, PySem.W.recIn K p "property" = some (.ref g :: rest)) ∧
    FnR P w K mg base (L2.CX P w) k g sp
theorem PQ.mono {P w K mg base C f j k sp} (F : PQ P w K mg base C f j sp) (h : j ≤ k) : PQ P w K mg base C f k sp :=
  let ⟨p, g, a, b, c, d, e⟩ := F.ex; ⟨p, g, a, b, c, d, e.mono h⟩
section
variable {C : Cg} {X : Cx} {P : Pm} {w w1 w2 : Wd} {U : WX} {σ : L2.St} {H : Hp} {Q : VK} {env : Env} {e a b o : Expr} {es : List Expr} {p pos pos' apos : Pos} {fa fb fc fe : CE} {ga : CA} {K : PySem.W.Frag} {x : Str} {k n c : Nat} {sp : Sp}
theorem run_makeS {pins : List (Addr × Obj)} {s : Shared} {us : List Value} {vs : List V} {f B : Addr} {fd : FuncData} {ps : List Str} (M : Mk X.K B f) (F : FnOk X.prog X.w X.K X.mg X.base (L2.CX X.prog X.w) k f fd ps sp) (hr : Room (k + 1) X.A) (hb : Binds X.K fd ps []) (tk : Takes X U) (I : Inv X pins σ H s) (r : Vals vs us)
    (h : ∀ x dx, H x = none → H dx = none → dx ≠ x → sp (.ref x :: vs) (upd (upd H dx (.own x)) x (.ins B dx [])) (fun v H2 => v = .non ∧ Q (.ref x) H2) (fun c d H' => U c d σ H')) :
    wpAny (model X.prog X.w) X.A (call (.ref B) us) (EP X pins σ Q) X.xe s := by
  have hq := h (s.heap.objs.size + 1) s.heap.objs.size (I.hok.fresh (Nat.le_succ _)) (I.hok.fresh (Nat.le_refl _)) (Nat.ne_of_lt (Nat.lt_succ_self _))
  have I2 := Inv.made (C := B) I
  have r2 : Vals (V.ref (s.heap.objs.size + 1) :: vs) (Value.ref (s.heap.objs.size + 1) :: us) := .cons rfl r
  have hl : (Value.ref (s.heap.objs.size + 1) :: us ++ []).length = ps.length := by
    have e := r2.length
    rw [F.len _ _ _ _ hq] at e
    rw [List.append_nil]
    exact e.symm
  refine wpAny_call (make_map (f := f) I.kIn M.makes M.init (beq_iff_eq.mp M.fn) (codeAny_mono (F.run _ X.stack _ _ ⟨Value.ref (s.heap.objs.size + 1) :: us, []⟩ (Value.ref (s.heap.objs.size + 1) :: us) _ _ (fun c d H' => U c d σ H') (hr.make B us [])
    (I2.env0.make B us []) (by have := hb _ (Value.ref (s.heap.objs.size + 1) :: us) I2.kIn hl; simpa using this) r2 hq) fun r s' hq' => ?_))
  cases r with
  | error e => exact tk e s' (XE.of_call I2 (fun cls d H' h => h) hq')
  | ok fl =>
    cases fl with
    | ret u =>
      obtain ⟨v, H', I3, rv, ev, q3⟩ := I2.after hq'
      subst ev
      exact ⟨rv, ⟨V.ref (s.heap.objs.size + 1), H', I3, rfl, q3⟩⟩
    | next => exact False.elim hq'
    | brk => exact False.elim hq'
    | cont => exact False.elim hq'
theorem ex_make {B : Addr} (F : MQ X.prog X.w X.K X.mg X.base x B k sp) (hr : Room (k + 1) X.A) (tk : Takes X U)
    (h : AX X (e :: es) σ H fun vs H1 => ∀ y dx, H1 y = none → H1 dx = none → dx ≠ y → sp (.ref y :: vs) (upd (upd H1 dx (.own y)) y (.ins B dx [])) (fun v H2 => v = .non ∧ Q (.ref y) H2) (fun c d H' => U c d σ H'))
    (hg : Gl X x := by rfl) (hdb : (x == ("__debug__" : Str)) = false := by decide) (he : starEach (e :: es) X.env = (false, eval e X.env) :: starEach es X.env := by rfl)
    (hpl : (backTo pos (starEach es X.env)).any (·.1) = false := by rfl) : EX X (.Call (.Name x p) (e :: es) [] pos) σ H Q := by
  obtain ⟨fa, fd, ps, hm, M, hb, F⟩ := F.ex
  intro pins s I
  refine wpAny_Call_Name_kw (ld_glob I hg hm ?_ hdb)
  refine PySem.W.callWith_K (h₀ := X.base) I.ok.mod.kin M.kp (thn (pa_ax.run pos pins s σ H _ I h) fun us s1 ⟨vs, H1, I1, r, q⟩ => ⟨I1.kIn, ?_⟩) he hpl
  exact run_makeS M F hr hb tk I1 r q
theorem ex_make0 {B : Addr} (F : MQ X.prog X.w X.K X.mg X.base x B k sp) (hr : Room (k + 1) X.A) (tk : Takes X U)
    (h : ∀ y dx, H y = none → H dx = none → dx ≠ y → sp [.ref y] (upd (upd H dx (.own y)) y (.ins B dx [])) (fun v H2 => v = .non ∧ Q (.ref y) H2) (fun c d H' => U c d σ H'))
    (hg : Gl X x := by rfl) (hdb : (x == ("__debug__" : Str)) = false := by decide) : EX X (.Call (.Name x p) [] [] pos) σ H Q := by
  obtain ⟨fa, fd, ps, hm, M, hb, F⟩ := F.ex
  intro pins s I
  refine wpAny_Call_Name_kw (ld_glob I hg hm ?_ hdb)
  exact PySem.W.callWith_K0 I.kIn M.kp (run_makeS (us := []) M F hr hb tk I .nil h)
/-- a new instance in the store -/
theorem step_ins (R : Rel K C P w) (hk : C.kn c = true) {y dx : Addr} (hy : w.H y = none) (hd : w.H dx = none) (hn : dx ≠ y) :
    Step K C P w ⟨fun a => w.Zf a ∨ a ∈ foot (y, dx) (.ins c []), fun i => if i = w.s.nx then (y, dx) else w.m i, w.s.add (.ins c []), upd (upd w.H dx (.own y)) y (.ins (C.cl c) dx [])⟩ := by
  have hm : ∀ b, b ∈ foot (y, dx) (.ins c []) → b = y ∨ b = dx := fun b hb => by simpa [foot] using hb
  refine step_add R (fun b hb => ?_) (fun a ha => ?_) (fun b hb => ?_) fun wn hH hn' ex mx hm' => ?_
  · rcases hm b hb with rfl | rfl
    · exact hy
    · exact hd
  · have h1 : a ≠ y := fun z => ha (by simp [foot, z])
    have h2 : a ≠ dx := fun z => ha (by simp [foot, z])
    rw [upd_ne h1, upd_ne h2]
  · rcases hm b hb with rfl | rfl
    · exact ⟨_, upd_same⟩
    · rw [upd_ne hn]
      exact ⟨_, upd_same⟩
  · exact ⟨[], hk, .inl ⟨by rw [hH]; exact upd_same, rfl⟩, hn, rfl, fun i x h => by simp at h⟩
theorem make_sp {f : List W → S → RS W} (R : Rel X.K C P w) (hk : C.kn c = true) (q : AskI n f) {ws : List W} {vs : List V} (r : RWs X.K C w ws vs) (h : Out X.K C P U σ (RW X.K C) w ((f (.ref w.s.nx :: ws) (w.s.add (.ins c []))).bind fun r s2 => match r with
  | .d .non => .ok (.ref w.s.nx) s2
  | _ => .bad) Q) {y dx : Addr} (hy : w.H y = none) (hd : w.H dx = none) (hn : dx ≠ y) :
    spI X.K C n f (.ref y :: vs) (upd (upd w.H dx (.own y)) y (.ins (C.cl c) dx [])) (fun v H2 => v = .non ∧ Q (.ref y) H2) (fun c d H' => U c d σ H') := by
  have st := step_ins R hk hy hd hn
  have hr : RWs X.K C ⟨fun a => w.Zf a ∨ a ∈ foot (y, dx) (.ins c []), fun i => if i = w.s.nx then (y, dx) else w.m i, w.s.add (.ins c []), upd (upd w.H dx (.own y)) y (.ins (C.cl c) dx [])⟩ (.ref w.s.nx :: ws) (.ref y :: vs) :=
    ⟨_, vs, rfl, ⟨Nat.lt_succ_self _, by simp⟩, RWs.mono st r⟩
  refine callI_sp st.rel q hr (Out.bind (Out.mono st h) fun w3 a v st3 ra h3 => ?_)
  cases a with
  | ref _ => exact h3.elim
  | d a =>
    cases a with
    | non =>
      have : v = .non := by simpa [RW, RD] using ra
      refine ⟨this, h3 w3 rfl (.refl st3.rel) (.ref y) ⟨Nat.lt_of_lt_of_le (Nat.lt_succ_self _) st3.nx, ?_⟩⟩
      rw [st3.mx _ (Nat.lt_succ_self _)]
      simp
    | _ => exact h3.elim
theorem se_make {f : List W → S → RS W} (F : MQ X.prog X.w X.K X.mg X.base x (C.cl c) k (spI X.K C n f)) (hk : C.kn c = true) (q : AskI n f) (hr : Room (k + 1) X.A) (ha : SA C X (e :: es) ga) (hg : Gl X x := by rfl) (hdb : (x == ("__debug__" : Str)) = false := by decide) (he : starEach (e :: es) X.env = (false, eval e X.env) :: starEach es X.env := by rfl)
    (hpl : (backTo pos (starEach es X.env)).any (·.1) = false := by rfl) : SE C X (.Call (.Name x p) (e :: es) [] pos) (cMake c f ga) := fun P U w env σ Q tk R E h =>
  ex_make F hr tk (ha.go tk R E h fun w1 ws vs st rs E1 h1 y dx hy hd hn => make_sp st.rel hk q rs h1 hy hd hn) hg hdb he hpl
theorem allD_v : ∀ {fs : List (Option W)} {vs : List (Option V)} {xs : List D}, allD fs = some xs → vs.length = fs.length → (∀ (i : Nat) (x : W), fs[i]? = some (some x) → ∃ v, vs[i]? = some (some v) ∧ RW K C w x v) → ∃ us, vs = us.map some ∧ RDs K C w.Zf w.H xs us
  | [], vs, xs, e, hl, _ => by
    cases e
    cases vs with
    | nil => exact ⟨[], rfl, .nil⟩
    | cons => simp at hl
  | none :: r, vs, xs, e, hl, h => by cases e
  | some (.ref _) :: r, vs, xs, e, hl, h => by cases e
  | some (.d x) :: r, vs, xs, e, hl, h => by
    unfold allD at e
    cases q : allD r with
    | none => rw [q] at e; cases e
    | some ys =>
      rw [q] at e
      cases e
      cases vs with
      | nil => simp at hl
      | cons v vs =>
        obtain ⟨u, e1, r1⟩ := h 0 (.d x) rfl
        have : v = some u := by simpa using e1
        subst this
        obtain ⟨us, e2, r2⟩ := allD_v q (by simpa using hl) (vs := vs) fun i y hy => h (i + 1) y (by simpa using hy)
        exact ⟨u :: us, by rw [e2]; rfl, .cons r1 r2⟩
theorem se_doneO (h0 : SE C X e fa) : SE C X e (cDoneO fa) := by
  intro P U w env σ Q tk R E h
  refine h0 P U w env σ Q tk R E ?_
  unfold cDoneO at h
  refine Out.bind h fun w1 x v st ra h1 => ?_
  cases x with
  | d x => exact out_ok st.rel h1 ra
  | ref i =>
    dsimp only at h1
    cases q : w1.s.get i with
    | none => rw [q] at h1; exact h1.elim
    | some ob =>
      rw [q] at h1
      have sd := step_del st.rel q
      have ho := st.rel.obj i ob q
      cases ob with
      | ins c fs =>
        dsimp only at h1
        cases ea : allD fs with
        | none => rw [ea] at h1; exact h1.elim
        | some ys =>
          rw [ea] at h1
          cases ys with
          | nil => exact h1.elim
          | cons y ys =>
            obtain ⟨vs, hk, hs, hne, hln, hv⟩ := ho
            obtain ⟨us, e2, r2⟩ := allD_v ea hln hv
            refine h1 _ rfl sd v ?_
            rw [ra.2]
            show RD _ _ _ _ (.obj c (y :: ys)) _
            simp only [RD]
            rcases hs with ⟨_, z⟩ | ⟨g1, g2⟩
            · rw [z] at e2
              cases us with
              | nil => have := r2.length; simp at this
              | cons => simp at e2
            · exact ⟨_, _, us, rfl, hk, by rw [← e2]; exact g1, g2, fun z => z.2 (by simp [foot]), fun z => z.2 (by simp [foot]), RDs.mono sd.ex _ _ r2⟩
      | _ => exact h1.elim
/-- e.f, a property of instances that do not change -/
theorem se_prop {f : Str} {tb : Nat → Option (List D → R D)} (g : ∀ c, C.kn c = true → GC X.K C c) (hs0 : ∀ c h, tb c = some h → PQ X.prog X.w X.K X.mg X.base (C.cl c) f k (spP X.K C 1 h)) (hr : Room (k + 1) X.A) (ha : SE C X e fa) (hb : attributeBase e f X.env (eval e X.env) = eval e X.env := by rfl) :
    SE C X (.Attribute e f pos) (cProp tb fa) := by
  intro P U w env σ Q tk R E h
  cases er : fa env w.s with
  | bad => unfold cProp at h; rw [er] at h; exact h.elim
  | exc x s =>
    unfold cProp at h
    rw [er] at h
    exact ex_of (SlX.pe_sl pe_ex hb) (ha P U w env σ _ tk R E (by rw [er]; exact h))
  | ok x s =>
    unfold cProp at h
    rw [er] at h
    cases x with
    | ref _ => exact h.elim
    | d x =>
      cases x with
      | obj c xs =>
        simp only [RS.bind] at h
        cases et : tb c with
        | none => rw [et] at h; exact h.elim
        | some h' =>
          rw [et] at h
          dsimp only at h
          cases ey : h' [.obj c xs] with
          | bad => rw [ey] at h; exact h.elim
          | exc _ => rw [ey] at h; exact h.elim
          | ok y =>
            rw [ey] at h
            dsimp only at h
            obtain ⟨p, g', k1, k2, k3, k4, F⟩ := (hs0 c h' et).ex
            by_cases hk : C.kn c = true
            · refine ex_of (SlX.pe_propSl (E := fun _ _ _ => False) pe_ex (g c hk).sc k1 k2 k3 k4 F hr (fun H s e s' z => by obtain ⟨_, _, _, _, _, _, _, _, _, _, _, _, z⟩ := z; exact z) hb) (ha P U w env σ _ tk R E ?_)
              rw [er]
              intro w1 es st v ra
              subst es
              obtain ⟨a, dx, vs, rfl, hk, hs, hv⟩ := rd_obj (show RD X.K C w1.Zf w1.H (.obj c xs) v from ra)
              refine ⟨a, dx, vs.map some, rfl, hs, rfl, w1.Zf, [.obj c xs], st.rel.zin, .cons ra .nil, ?_⟩
              rw [ey]
              intro H' v' hs' hv'
              have s2 := step_same st.rel hs'
              exact h { w1 with H := H' } rfl (st.trans s2) v' hv'
            · refine ex_of (SlX.pe_sl pe_ex hb) (ha P U w env σ _ tk R E ?_)
              rw [er]
              intro w1 es st v ra
              obtain ⟨a, dx, vs, rfl, hk', _⟩ := rd_obj (show RD X.K C w1.Zf w1.H (.obj c xs) v from ra)
              exact absurd hk' hk
      | _ => exact h.elim
end
end Z
end

section
set_option Elab.async false
set_option linter.all false
set_option maxRecDepth 100000
set_option maxHeartbeats 4000000
/-! List comprehensions. -/
namespace Z
open PySem PySem.Spec PyProof.Rows L2
theorem takes_no {X : Cx} : Takes X (fun _ _ _ _ => False) := fun u s' ⟨_, _, _, _, _, _, _, _, _, _, _, _, _, _, _, _, w⟩ => w.elim
theorem Ex.trans {Z1 Z2 Z3 : Addr → Prop} {H1 H2 H3 : Hp} (a : Ex Z1 H1 Z2 H2) (b : Ex Z2 H2 Z3 H3) : Ex Z1 H1 Z3 H3 where
  ext := fun x o h z => b.ext x o (a.ext x o h z) (a.nz h z)
  zm := fun x h => (b.zm x h).elim (a.zm x) fun n => by
    by_cases z : Z1 x
    · exact .inl z
    · refine .inr ?_
      cases q : H1 x with
      | none => rfl
      | some o => rw [a.ext x o q z] at n; cases n
section
variable {K : PySem.W.Frag} {C : Cg} {P : Pm} {w w1 w2 w3 : Wd} {Dl : Addr}
/-- what the store's objects stand on -/
def feet (w : Wd) : Addr → Prop := fun a => ∃ i o, w.s.get i = some o ∧ a ∈ foot (w.m i) o
/-- with a list of its own at Dl -/
def hidP (P : Pm) (Dl : Addr) : Pm := ⟨P.H0, P.own0, fun a => P.zc a ∨ a = Dl⟩
def turnP (P : Pm) (w : Wd) (Dl : Addr) : Pm := ⟨w.H, feet w, fun a => P.zc a ∨ a = Dl⟩
theorem hid_start (R : Rel K C P w) (hD : w.H Dl = none) (u : HO) : Rel K C (hidP P Dl) ⟨fun a => w.Zf a ∨ a = Dl, w.m, w.s, upd w.H Dl u⟩ ∧ Ex w.Zf w.H (fun a => w.Zf a ∨ a = Dl) (upd w.H Dl u) := by
  have ex : Ex w.Zf w.H (fun a => w.Zf a ∨ a = Dl) (upd w.H Dl u) := ⟨fun a o h _ => by rw [upd_ne (ne_of_none h hD)]; exact h, fun a h => h.imp id fun (z : a = Dl) => by rw [z]; exact hD⟩
  have nf : ∀ i o, w.s.get i = some o → ∀ b ∈ foot (w.m i) o, b ≠ Dl := fun i o q b hb => ne_zf R (R.own i o q b hb).1 hD
  refine ⟨⟨fun i o q => ?_, fun i o q b hb => ?_, R.inj, fun a h => h.imp (R.zc a) id, fun a h => ?_, fun a o h z => ?_, R.lt⟩, ex⟩
  · exact RO.mono (w' := ⟨fun a => w.Zf a ∨ a = Dl, w.m, w.s, upd w.H Dl u⟩) ex (fun b hb => upd_ne (nf i o q b hb)) (fun _ _ => rfl) (Nat.le_refl _) (R.obj i o q)
  · obtain ⟨h1, h2, h3⟩ := R.own i o q b hb
    exact ⟨.inl h1, h2, fun z => z.elim h3 (nf i o q b hb)⟩
  · rcases h with h | h
    · obtain ⟨o, ho⟩ := R.zin a h
      exact ⟨o, by show upd w.H Dl u a = _; rw [upd_ne (ne_of_none ho hD)]; exact ho⟩
    · subst h
      exact ⟨u, upd_same⟩
  · have := R.keep a o h z
    show upd w.H Dl u a = _
    rw [upd_ne (ne_of_none this hD)]
    exact this
theorem turn_in (R : Rel K C (hidP P Dl) w) : Rel K C (turnP P w Dl) w where
  obj := R.obj
  own := fun i o q b hb => ⟨(R.own i o q b hb).1, .inl ⟨i, o, q, hb⟩, (R.own i o q b hb).2.2⟩
  inj := R.inj
  zc := R.zc
  zin := R.zin
  keep := fun a o h _ => h
  lt := R.lt
theorem turn_out (R : Rel K C (hidP P Dl) w) (st : Step K C (turnP P w Dl) w w1) : Step K C (hidP P Dl) w w1 where
  rel := {
    obj := st.rel.obj
    own := fun i o q b hb => by
      obtain ⟨h1, h2, h3⟩ := st.rel.own i o q b hb
      refine ⟨h1, ?_, h3⟩
      rcases h2 with ⟨j, u, h2, h4⟩ | h2
      · exact (R.own j u h2 b h4).2.1
      · by_cases z : P.own0 b
        · exact .inl z
        · refine .inr ?_
          cases e : P.H0 b with
          | none => exact e
          | some o =>
            have h2 : w.H b = none := h2
            rw [R.keep b o e z] at h2
            cases h2
    inj := st.rel.inj
    zc := st.rel.zc
    zin := st.rel.zin
    keep := fun a o h z => by
      refine st.rel.keep a o (R.keep a o h z) ?_
      rintro ⟨j, u, h2, h4⟩
      rcases (R.own j u h2 a h4).2.1 with q | q
      · exact z q
      · cases (show P.H0 a = some o from h).symm.trans q
    lt := st.rel.lt }
  ext := st.ext
  zm := st.zm
  mx := st.mx
  nx := st.nx
theorem turn_D {u : HO} (hD : w.H Dl = some u) (R : Rel K C (hidP P Dl) w) (st : Step K C (turnP P w Dl) w w1) : w1.H Dl = some u := by
  refine st.rel.keep Dl u hD ?_
  rintro ⟨j, o, h2, h4⟩
  exact (R.own j o h2 Dl h4).2.2 (.inr rfl)
/-- an item is appended -/
theorem hid_app (R : Rel K C (hidP P Dl) w) (h0 : ∀ o, P.H0 Dl = some o → P.own0 Dl) (u : HO) : Step K C (hidP P Dl) w { w with H := upd w.H Dl u } := by
  have zD : w.Zf Dl := R.zc Dl (.inr rfl)
  have ex : Ex w.Zf w.H w.Zf (upd w.H Dl u) := ⟨fun a o h z => by rw [upd_ne fun (e : a = Dl) => z (by rw [e]; exact zD)]; exact h, fun a h => .inl h⟩
  have nf : ∀ i o, w.s.get i = some o → ∀ b ∈ foot (w.m i) o, b ≠ Dl := fun i o q b hb e => (R.own i o q b hb).2.2 (.inr e)
  refine ⟨⟨fun i o q => ?_, R.own, R.inj, R.zc, fun a h => ?_, fun a o h z => ?_, R.lt⟩, ex.ext, ex.zm, fun _ _ => rfl, Nat.le_refl _⟩
  · exact RO.mono (w' := { w with H := upd w.H Dl u }) ex (fun b hb => upd_ne (nf i o q b hb)) (fun _ _ => rfl) (Nat.le_refl _) (R.obj i o q)
  · by_cases e : a = Dl
    · subst e
      exact ⟨u, upd_same⟩
    · obtain ⟨o, ho⟩ := R.zin a h
      exact ⟨o, by show upd w.H Dl u a = _; rw [upd_ne e]; exact ho⟩
  · have e : a ≠ Dl := fun e => by
      subst e
      exact z (h0 o h)
    show upd w.H Dl u a = _
    rw [upd_ne e]
    exact R.keep a o h z
/-- the list of its own is left out -/
theorem hid_end (R0 : Rel K C P w) (hD : w.H Dl = none) (R : Rel K C (hidP P Dl) w1) (ex : Ex w.Zf w.H w1.Zf w1.H) (mx : ∀ i, i < w.s.nx → w1.m i = w.m i) (nx : w.s.nx ≤ w1.s.nx) :
    Step K C P w ⟨fun a => w1.Zf a ∧ a ≠ Dl, w1.m, w1.s, fun a => if a = Dl then none else w1.H a⟩ ∧ Ex w1.Zf w1.H (fun a => w1.Zf a ∧ a ≠ Dl) (fun a => if a = Dl then none else w1.H a) := by
  have zD : w1.Zf Dl := R.zc Dl (.inr rfl)
  have e2 : Ex w1.Zf w1.H (fun a => w1.Zf a ∧ a ≠ Dl) (fun a => if a = Dl then none else w1.H a) := ⟨fun a o h z => by rw [if_neg fun (e : a = Dl) => z (by rw [e]; exact zD)]; exact h, fun a h => .inl h.1⟩
  have nf : ∀ i o, w1.s.get i = some o → ∀ b ∈ foot (w1.m i) o, b ≠ Dl := fun i o q b hb e => (R.own i o q b hb).2.2 (.inr e)
  refine ⟨⟨⟨fun i o q => ?_, fun i o q b hb => ?_, R.inj, fun a h => ⟨R.zc a (.inl h), ?_⟩, fun a h => ?_, fun a o h z => ?_, R.lt⟩, fun a o h z => ?_, fun a h => ?_, mx, nx⟩, e2⟩
  · exact RO.mono (w' := ⟨fun a => w1.Zf a ∧ a ≠ Dl, w1.m, w1.s, fun a => if a = Dl then none else w1.H a⟩) e2 (fun b hb => if_neg (nf i o q b hb)) (fun _ _ => rfl) (Nat.le_refl _) (R.obj i o q)
  · obtain ⟨h1, h2, h3⟩ := R.own i o q b hb
    exact ⟨⟨h1, nf i o q b hb⟩, h2, fun z => h3 (.inl z)⟩
  · exact ne_zf R0 (R0.zc a h) hD
  · obtain ⟨o, ho⟩ := R.zin a h.1
    exact ⟨o, by show (if a = Dl then none else w1.H a) = _; rw [if_neg h.2]; exact ho⟩
  · show (if a = Dl then none else w1.H a) = _
    rw [if_neg (ne_of_none (R0.keep a o h z) hD)]
    exact R.keep a o h z
  · show (if a = Dl then none else w1.H a) = _
    have hn := ne_of_none h hD
    rw [if_neg hn]
    exact ex.ext a o h z
  · exact ex.zm a h.1
end
theorem pre_cons {acc : List D} {y : D} {r : RS (List D)} : pre acc (r.ck fun ys s4 => .ok (y :: ys) s4) = pre (acc ++ [y]) r := by
  cases r with
  | ok ys s => simp [pre, RS.ck]
  | exc x s => rfl
  | bad => rfl
theorem pre_ck {α : Type} {acc : List D} {r : RS α} {k : α → S → RS (List D)} : pre acc (r.ck k) = match r with
  | .ok a s => pre acc (k a s)
  | _ => .bad := by
  cases r <;> rfl
theorem lim_pre {acc : List D} {r : RS (List D)} (h : pre acc r ≠ .bad) : acc.length ≤ LIM := by
  cases r with
  | ok ys s =>
    unfold pre RS.ck at h
    dsimp only at h
    split at h
    · rename_i hl
      rw [List.length_append] at hl
      omega
    · exact absurd rfl h
  | exc x s => exact absurd rfl h
  | bad => exact absurd rfl h
theorem wipe_set {vs : List Nat} : ∀ {σ σ1 : L2.St}, σ1.length = σ.length → (∀ i, i ∉ vs → σ1[i]? = σ[i]?) → wipe σ1 vs = wipe σ vs := fun {σ σ1} hl h => by
  refine List.ext_getElem? fun i => ?_
  by_cases hi : i ∈ vs
  · have key : ∀ (vs : List Nat) (σ : L2.St), i ∈ vs → (wipe σ vs)[i]? = if i < σ.length then some none else none := by
      intro vs
      induction vs with
      | nil => intro σ h; cases h
      | cons v vs ih =>
        intro σ h
        unfold wipe
        by_cases hv : v = i
        · subst hv
          rw [List.getElem?_set_self']
          by_cases hlt : v < σ.length
          · rw [if_pos hlt, List.getElem?_eq_getElem (by rw [wipe_length]; exact hlt)]
            rfl
          · rw [if_neg hlt, List.getElem?_eq_none (by rw [wipe_length]; omega)]
            rfl
        · rw [List.getElem?_set_ne hv]
          rcases List.mem_cons.mp h with q | q
          · exact absurd q.symm hv
          · exact ih σ q
    rw [key vs σ1 hi, key vs σ hi, hl]
  · rw [wipe_out hi, wipe_out hi]
    exact h i hi
/-- tests of a clause -/
def TsX (X : Cx) (ifs : List Expr) : TT := fun σ H Q => ∀ (pins : List (Addr × Obj)) (s : Shared), Inv X pins σ H s →
    wpAny (model X.prog X.w) X.A (forIn ifs true fun c r => if r = true then do let ok ← isTrue c X.env (eval c X.env); pure (ForInStep.yield ok) else pure (ForInStep.yield r)) (TP X pins σ Q) X.xe s
theorem pts_x {X : Cx} {ifs : List Expr} : PTs X ifs (TsX X ifs) := ⟨fun pins s σ H Q I h => h pins s I⟩
theorem tsx_of {X : Cx} {ifs : List Expr} {t : TT} {σ : L2.St} {H : Hp} {Q : Bool → Hp → Prop} (h : PTs X ifs t) (q : t σ H Q) : TsX X ifs σ H Q := fun pins s I => h.run pins s σ H Q I q
def STs (C : Cg) (X : Cx) (ifs : List Expr) (f : CT) : Prop := ∀ (P : Pm) (U : WX) (w : Wd) (env : Env) (σ : L2.St) (Q : Bool → Hp → Prop), Takes X U → Rel X.K C P w → RE X.K C w env σ → Out X.K C P U σ (fun _ a b => a = b) w (f env w.s) Q → TsX X ifs σ w.H Q
theorem sts_nil {C : Cg} {X : Cx} : STs C X [] yes := fun P U w env σ Q tk R E h => tsx_of pts_nil (h w rfl (.refl R) true rfl)
theorem sts_one {C : Cg} {X : Cx} {c : Expr} {f : CT} (h : ST C X c f) : STs C X [c] f := fun P U w env σ Q tk R E q => tsx_of (pts_one pt_tx) (h P U w env σ Q tk R E q)
section
variable {C : Cg} {X : Cx} {scope : Scope} {P : Pm} {w w1 w2 : Wd} {U : WX} {σ : L2.St} {env : Env} {elt tg iter : Expr} {ifs : List Expr} {own : List (Str × Nat)} {pos spos : Pos} {g : TG} {t : CT} {el : CE} {sl vs : List Nat} {it : CI} {Dl : Addr} {Q : VK} {J : It}
abbrev bk (X : Cx) (scope : Scope) (s : Shared) (H : Hp) (B : Addr) (cl : List (Str × Addr)) (fp : List Addr) : Cx := X.blk s H scope (compEnvC scope cl B X.env) fp
def GB (X : Cx) (scope : Scope) (tg : Expr) : L2.TG := fun v σ H Q => ∀ s H' B cl fp, GX (bk X scope s H' B cl fp) tg v σ H Q
def TsB (X : Cx) (scope : Scope) (ifs : List Expr) : TT := fun σ H Q => ∀ s H' B cl fp, TsX (bk X scope s H' B cl fp) ifs σ H Q
def EB (X : Cx) (scope : Scope) (e : Expr) : TE := fun σ H Q => ∀ s H' B cl fp, EX (bk X scope s H' B cl fp) e σ H Q
theorem pg_gb {s : Shared} {H : Hp} {B : Addr} {cl : List (Str × Addr)} {fp : List Addr} : PG (bk X scope s H B cl fp) tg (GB X scope tg) := ⟨fun pins s1 σ H1 v u Q I r h => h s H B cl fp pins s1 u I r⟩
theorem pts_b {s : Shared} {H : Hp} {B : Addr} {cl : List (Str × Addr)} {fp : List Addr} : PTs (bk X scope s H B cl fp) ifs (TsB X scope ifs) := ⟨fun pins s1 σ H1 Q I h => h s H B cl fp pins s1 I⟩
theorem pe_b {s : Shared} {H : Hp} {B : Addr} {cl : List (Str × Addr)} {fp : List Addr} : PE (bk X scope s H B cl fp) elt (EB X scope elt) := ⟨fun pins s1 σ H1 Q I h => h s H B cl fp pins s1 I⟩
/-- the parts of a block are simulated -/
structure BQ (C : Cg) (X : Cx) (scope : Scope) (tg : Expr) (ifs : List Expr) (elt : Expr) (g : TG) (t : CT) (el : CE) (sl : List Nat) : Prop where
  g : ∀ s H B cl fp, SG C (bk X scope s H B cl fp) tg g sl
  t : ∀ s H B cl fp, STs C (bk X scope s H B cl fp) ifs t
  e : ∀ s H B cl fp, SE C (bk X scope s H B cl fp) elt el
/-- a turn, up to its item -/
theorem lc_turn (b : BQ C X scope tg ifs elt g t el sl) (hsl : ∀ i ∈ sl, i ∈ vs) {σo : L2.St} {acc : List D} {accV : List V} {x : D} {v : V} {rest : S → RS (List D)} {Nx : Hp → Prop} {wi : Wd} {H' : Hp} (Ri : Rel X.K C (hidP P Dl) wi) (h0 : ∀ o, P.H0 Dl = some o → P.own0 Dl) (E : RE X.K C wi (wipeE env vs) (wipe σ vs))
    (hD : wi.H Dl = some (.lst accV)) (hA : RDs X.K C wi.Zf wi.H acc accV)
    (y : Step X.K C (turnP P wi Dl) wi { wi with H := H' }) (rx : RD X.K C wi.Zf H' x v)
    (h : OutL X.K C P U σo w1 (pre acc ((g (.d x) (wipeE env vs) wi.s).ck fun e1 s1 => (t e1 s1).ck fun b s2 => if b then (el e1 s2).ck fun w s3 => match w with
      | .d y => (rest s3).ck fun ys s4 => .ok (y :: ys) s4
      | .ref _ => .bad
    else rest s2)) Q)
    (nx : ∀ w' acc' accV', Step X.K C (hidP P Dl) wi w' → w'.H Dl = some (.lst accV') → RDs X.K C w'.Zf w'.H acc' accV' → OutL X.K C P U σo w1 (pre acc' (rest w'.s)) Q → Nx w'.H) :
    GB X scope tg v (wipe σ vs) H' fun σ2 H2 => wipe σ2 vs = wipe σ vs ∧ TsB X scope ifs σ2 H2 fun b H3 =>
      if b = true then EB X scope elt σ2 H3 fun y H4 => ∃ acc, H4 Dl = some (.lst acc) ∧ acc.length < sizeLine ∧ Nx (upd H4 Dl (.lst (acc ++ [y]))) else Nx H3 := by
  intro s0 HH B cl fp
  rw [pre_ck] at h
  refine (b.g s0 HH B cl fp).run (turnP P wi Dl) _ { wi with H := H' } (wipeE env vs) (wipe σ vs) (.d x) v _ takes_no y.rel (E.mono y) rx ?_
  cases eg : g (.d x) (wipeE env vs) wi.s with
  | bad => rw [eg] at h; exact h.elim
  | exc z s => rw [eg] at h; exact h.elim
  | ok e1 s1 =>
    rw [eg] at h
    intro w2 es st2 σ2 hE
    obtain ⟨E2, off⟩ := hE
    subst es
    have y2 := y.trans st2
    refine ⟨?_, ?_⟩
    · have k1 := wipe_set (vs := vs) off.1 fun i hi => off.2 i fun q => hi (hsl i q)
      rw [k1]
      exact wipe_set (by rw [wipe_length]) fun i hi => wipe_out hi
    · intro s0 HH B cl fp
      dsimp only at h
      rw [pre_ck] at h
      refine b.t s0 HH B cl fp (turnP P wi Dl) _ w2 e1 σ2 _ takes_no st2.rel E2 ?_
      cases et : t e1 w2.s with
      | bad => rw [et] at h; exact h.elim
      | exc z s => rw [et] at h; exact h.elim
      | ok bb s2 =>
        rw [et] at h
        intro w3 es st3 bb' eb
        subst es
        subst eb
        have y3 := y2.trans st3
        have E3 := E2.mono st3
        cases bb with
        | false =>
          simp only [Bool.false_eq_true, if_false] at h ⊢
          have so := turn_out Ri y3
          exact nx w3 acc accV so (turn_D hD Ri y3) (RDs.mono so.ex _ _ hA) h
        | true =>
          simp only [if_true] at h ⊢
          intro s0 HH B cl fp
          rw [pre_ck] at h
          refine b.e s0 HH B cl fp (turnP P wi Dl) _ w3 e1 σ2 _ takes_no st3.rel E3 ?_
          cases ee : el e1 w3.s with
          | bad => rw [ee] at h; exact h.elim
          | exc z s => rw [ee] at h; exact h.elim
          | ok z s3 =>
            rw [ee] at h
            intro w4 es st4 u ru
            subst es
            cases z with
            | ref _ => exact h.elim
            | d z =>
              dsimp only at h
              rw [pre_cons] at h
              have y4 := y3.trans st4
              have so := turn_out Ri y4
              have sa := hid_app so.rel h0 (.lst (accV ++ [u]))
              have hA4 := RDs.mono so.ex _ _ hA
              have hl : (acc ++ [z]).length ≤ LIM := lim_pre (r := rest w4.s) fun q => by rw [q] at h; exact h
              rw [List.length_append] at hl
              have hl : acc.length + 1 ≤ LIM := hl
              refine ⟨accV, turn_D hD Ri y4, by rw [← hA.length, ← lim_eq]; exact hl, ?_⟩
              exact nx { w4 with H := upd w4.H Dl (.lst (accV ++ [u])) } (acc ++ [z]) (accV ++ [u]) (so.trans sa) upd_same (RDs.mono sa.ex _ _ (RDs.append hA4 (.cons ru .nil))) h
/-- the end -/
theorem lc_end {acc : List D} {accV : List V} {wi : Wd} (R : Rel X.K C P w1) (hD0 : w1.H Dl = none) (s1 : Step X.K C (hidP P Dl) w1 wi) (hD : wi.H Dl = some (.lst accV)) (hA : RDs X.K C wi.Zf wi.H acc accV) (h : OutL X.K C P U σ w1 (pre acc (.ok [] wi.s)) Q) : Q (.ref Dl) wi.H := by
  obtain ⟨st, ex⟩ := hid_end R hD0 s1.rel s1.ex s1.mx s1.nx
  have hl : acc.length ≤ LIM := lim_pre (r := .ok [] wi.s) fun q => by rw [q] at h; exact h
  have hp : pre acc (.ok [] wi.s) = .ok acc wi.s := by
    unfold pre RS.ck
    dsimp only
    rw [List.append_nil, if_pos hl]
  rw [hp] at h
  have q := h ⟨fun a => wi.Zf a ∧ a ≠ Dl, wi.m, wi.s, fun a => if a = Dl then none else wi.H a⟩ rfl st accV (RDs.mono ex _ _ hA) Dl (if_pos rfl)
  have e : upd (fun a => if a = Dl then none else wi.H a) Dl (.lst accV) = wi.H := by
    funext a
    by_cases z : a = Dl
    · subst z
      rw [upd_same, hD]
    · rw [upd_ne z, if_neg z]
  rw [← e]
  exact q
theorem lc_all (b : BQ C X scope tg ifs elt g t el sl) (hsl : ∀ i ∈ sl, i ∈ vs) (R : Rel X.K C P w1) (E : RE X.K C w1 env σ) {xs : List D} (hj : JAll X.K C w1 xs J) (h : OutL X.K C P U σ w1 (pre [] (lcAll g t el (wipeE env vs) xs w1.s)) Q) (hD0 : w1.H Dl = none) :
    ∃ W : Nat → Nat → Hp → Prop, (∃ m, W 0 m (upd w1.H Dl (.lst []))) ∧ ∀ i m H, W i m H →
      (J.stop i H ∧ Q (.ref Dl) H) ∨ (J.go i H ∧ ∃ Nx : Hp → Prop, (∀ H', Nx H' → ∃ m', m' < m ∧ W (i + 1) m' H') ∧ ∀ x H', J.yld i H x H' → GB X scope tg x (wipe σ vs) H' fun σ2 H2 => wipe σ2 vs = wipe σ vs ∧ TsB X scope ifs σ2 H2 fun b H3 =>
        if b = true then EB X scope elt σ2 H3 fun y H4 => ∃ acc, H4 Dl = some (.lst acc) ∧ acc.length < sizeLine ∧ Nx (upd H4 Dl (.lst (acc ++ [y]))) else Nx H3) := by
  have h0 : ∀ o, P.H0 Dl = some o → P.own0 Dl := fun o q => Classical.byContradiction fun z => by
    rw [R.keep Dl o q z] at hD0
    cases hD0
  obtain ⟨r0, e0⟩ := hid_start R hD0 (.lst [])
  have s0 : Step X.K C (hidP P Dl) w1 ⟨fun a => w1.Zf a ∨ a = Dl, w1.m, w1.s, upd w1.H Dl (.lst [])⟩ := ⟨r0, e0.ext, e0.zm, fun _ _ => rfl, Nat.le_refl _⟩
  refine ⟨fun i m H => ∃ (wi : Wd) (acc : List D) (accV : List V), H = wi.H ∧ Step X.K C (hidP P Dl) w1 wi ∧ wi.H Dl = some (.lst accV) ∧ RDs X.K C wi.Zf wi.H acc accV ∧ m = xs.length - i ∧ OutL X.K C P U σ w1 (pre acc (lcAll g t el (wipeE env vs) (xs.drop i) wi.s)) Q,
    ⟨_, _, [], [], rfl, s0, upd_same, .nil, rfl, ?_⟩, ?_⟩
  · show OutL X.K C P U σ w1 (pre [] (lcAll g t el (wipeE env vs) (xs.drop 0) w1.s)) Q
    rw [List.drop_zero]
    exact h
  · rintro i m _ ⟨wi, acc, accV, rfl, s1, hD, hA, rfl, h1⟩
    obtain ⟨j1, j2⟩ := hj wi s1.ex i
    cases ex : xs[i]? with
    | none =>
      have hl2 : xs.length ≤ i := List.getElem?_eq_none_iff.mp ex
      rw [List.drop_eq_nil_of_le hl2] at h1
      exact .inl ⟨j2 hl2, lc_end R hD0 s1 hD hA h1⟩
    | some x =>
      obtain ⟨hl2, _⟩ := List.getElem?_eq_some_iff.mp ex
      obtain ⟨go, yl⟩ := j1 x ex
      refine .inr ⟨go, fun H' => ∃ (wi : Wd) (acc : List D) (accV : List V), H' = wi.H ∧ Step X.K C (hidP P Dl) w1 wi ∧ wi.H Dl = some (.lst accV) ∧ RDs X.K C wi.Zf wi.H acc accV ∧ OutL X.K C P U σ w1 (pre acc (lcAll g t el (wipeE env vs) (xs.drop (i + 1)) wi.s)) Q, ?_, ?_⟩
      · rintro _ ⟨w2, acc2, accV2, rfl, k1, k2, k3, k5⟩
        exact ⟨xs.length - (i + 1), by omega, w2, acc2, accV2, rfl, k1, k2, k3, rfl, k5⟩
      · intro v H' yy
        obtain ⟨y, rx⟩ := yl v H' yy (turnP P wi Dl) (turn_in s1.rel)
        have ed : xs.drop i = x :: xs.drop (i + 1) := by
          rw [List.drop_eq_getElem_cons hl2]
          congr 1
        rw [ed] at h1
        exact lc_turn (rest := lcAll g t el (wipeE env vs) (xs.drop (i + 1))) b hsl s1.rel h0 ((RE.wipe E vs).mono s1) hD hA y rx h1 fun w' acc' accV' so k1 k2 k4 => ⟨w', acc', accV', rfl, s1.trans so, k1, k2, k4⟩
theorem lc_at (b : BQ C X scope tg ifs elt g t el sl) (hsl : ∀ i ∈ sl, i ∈ vs) (R : Rel X.K C P w1) (E : RE X.K C w1 env σ) {j n : Nat} (hn : j < w1.s.nx) (hj : JAt X.K C (w1.m j).1 J) (h : OutL X.K C P U σ w1 (pre [] (lcAt g t el (wipeE env vs) j n 0 w1.s)) Q) (hD0 : w1.H Dl = none) :
    ∃ W : Nat → Nat → Hp → Prop, (∃ m, W 0 m (upd w1.H Dl (.lst []))) ∧ ∀ i m H, W i m H →
      (J.stop i H ∧ Q (.ref Dl) H) ∨ (J.go i H ∧ ∃ Nx : Hp → Prop, (∀ H', Nx H' → ∃ m', m' < m ∧ W (i + 1) m' H') ∧ ∀ x H', J.yld i H x H' → GB X scope tg x (wipe σ vs) H' fun σ2 H2 => wipe σ2 vs = wipe σ vs ∧ TsB X scope ifs σ2 H2 fun b H3 =>
        if b = true then EB X scope elt σ2 H3 fun y H4 => ∃ acc, H4 Dl = some (.lst acc) ∧ acc.length < sizeLine ∧ Nx (upd H4 Dl (.lst (acc ++ [y]))) else Nx H3) := by
  have h0 : ∀ o, P.H0 Dl = some o → P.own0 Dl := fun o q => Classical.byContradiction fun z => by
    rw [R.keep Dl o q z] at hD0
    cases hD0
  obtain ⟨r0, e0⟩ := hid_start R hD0 (.lst [])
  have s0 : Step X.K C (hidP P Dl) w1 ⟨fun a => w1.Zf a ∨ a = Dl, w1.m, w1.s, upd w1.H Dl (.lst [])⟩ := ⟨r0, e0.ext, e0.zm, fun _ _ => rfl, Nat.le_refl _⟩
  refine ⟨fun i m H => ∃ (wi : Wd) (acc : List D) (accV : List V), H = wi.H ∧ Step X.K C (hidP P Dl) w1 wi ∧ wi.H Dl = some (.lst accV) ∧ RDs X.K C wi.Zf wi.H acc accV ∧ OutL X.K C P U σ w1 (pre acc (lcAt g t el (wipeE env vs) j m i wi.s)) Q,
    ⟨n, _, [], [], rfl, s0, upd_same, .nil, h⟩, ?_⟩
  · rintro i m _ ⟨wi, acc, accV, rfl, s1, hD, hA, h1⟩
    cases m with
    | zero => exact h1.elim
    | succ m =>
      unfold lcAt at h1
      cases q : wi.s.get j with
      | none => rw [q] at h1; exact h1.elim
      | some ob =>
        rw [q] at h1
        cases ob with
        | lst xs =>
          obtain ⟨vs', q1, q2⟩ := s1.rel.obj j _ q
          rw [s1.mx j hn] at q1
          obtain ⟨j1, j2⟩ := hj wi xs vs' q1 q2 i
          dsimp only at h1
          cases ex : xs[i]? with
          | none =>
            rw [ex] at h1
            exact .inl ⟨j2 (List.getElem?_eq_none_iff.mp ex), lc_end R hD0 s1 hD hA h1⟩
          | some x =>
            rw [ex] at h1
            obtain ⟨go, yl⟩ := j1 x ex
            refine .inr ⟨go, fun H' => ∃ (wi : Wd) (acc : List D) (accV : List V), H' = wi.H ∧ Step X.K C (hidP P Dl) w1 wi ∧ wi.H Dl = some (.lst accV) ∧ RDs X.K C wi.Zf wi.H acc accV ∧ OutL X.K C P U σ w1 (pre acc (lcAt g t el (wipeE env vs) j m (i + 1) wi.s)) Q, ?_, ?_⟩
            · rintro _ ⟨w2, acc2, accV2, rfl, k1, k2, k3, k5⟩
              exact ⟨m, Nat.lt_succ_self m, w2, acc2, accV2, rfl, k1, k2, k3, k5⟩
            · intro v H' yy
              obtain ⟨rfl, rx⟩ := yl v H' yy
              exact lc_turn (wi := wi) (H' := wi.H) (rest := lcAt g t el (wipeE env vs) j m (i + 1)) b hsl s1.rel h0 ((RE.wipe E vs).mono s1) hD hA (Step.refl (turn_in s1.rel)) rx h1 fun w' acc' accV' so k1 k2 k4 => ⟨w', acc', accV', rfl, s1.trans so, k1, k2, k4⟩
        | _ => exact h1.elim
theorem lc_read (b : BQ C X scope tg ifs elt g t el sl) (hi : SI C X tg iter it) (hsl : ∀ i ∈ sl, i ∈ vs) (tk : Takes X U) (R : Rel X.K C P w) (E : RE X.K C w env σ) (h : OutL X.K C P U σ w (lLc it g t el vs env w.s) Q) :
    tLc (IX X tg iter) (GB X scope tg) (TsB X scope ifs) (EB X scope elt) vs σ w.H Q := by
  refine hi P U w env σ _ tk R E (OutL.bind h fun w1 J0 J st rj h1 D hD => ?_)
  cases J0 with
  | all xs =>
    exact lc_all b hsl st.rel (E.mono st) rj h1 hD
  | at_ j n =>
    exact lc_at b hsl st.rel (E.mono st) rj.1 rj.2 h1 hD
theorem sn_lc (hc : X.calm = true) (hN : X.N.Nodup) (ok : BlkOk X.N X.env.scope scope own) (hi : SI C X tg iter it) (b : BQ C X scope tg ifs elt g t el sl) (hsl : ∀ i ∈ sl, i ∈ own.map (·.2)) (hs : ∀ x, foldedSetIterable iter X.env x = pure x := by intro _; rfl) :
    SN C X (.ListComp elt [⟨tg, iter, ifs, 0⟩] scope pos) (lLc it g t el (own.map (·.2))) := fun P U w env σ Q tk R E h =>
  ex_of (pe_lc hc hN pi_ix ok (fun s H B cl fp => pg_gb) (fun s H B cl fp => pts_b) (fun s H B cl fp => pe_b) hs) (lc_read b hi hsl tk R E h)
/-- name = [..] -/
theorem ss_lcF {i : Nat} {y : Str} {py : Pos} (hc : X.calm = true) (hN : X.N.Nodup) (hy : X.N[i]? = some y) (hyl : X.env.scope.names.lookup y = some .local) (hsw : swapsWith (.ListComp elt [⟨tg, iter, ifs, 0⟩] scope pos) (some (.Name y py)) spos.line X.env = pure true)
    (ok : BlkOk X.N X.env.scope scope own) (hi : SI C X tg iter it) (b : BQ C X scope tg ifs elt g t el sl) (hsl : ∀ i ∈ sl, i ∈ own.map (·.2)) (hs : ∀ x, foldedSetIterable iter X.env x = pure x := by intro _; rfl) :
    SS C X (.Assign [.Name y py] (.ListComp elt [⟨tg, iter, ifs, 0⟩] scope pos) spos) (sAsg (cFrz (lLc it g t el (own.map (·.2)))) (gNm i)) := by
  intro P U w env σ D tk R E h
  refine sx_of (ps_setLc hc hN hy hyl hsw pi_ix ok (fun s H B cl fp => pg_gb) (fun s H B cl fp => pts_b) (fun s H B cl fp => pe_b) hs) ?_
  refine lc_read (U := U) b hi hsl tk R E ?_
  unfold sAsg cFrz at h
  cases q : lLc it g t el (own.map (·.2)) env w.s with
  | bad => rw [q] at h; exact h
  | exc x s => rw [q] at h; exact fun w' es st c o xr => h w' es st c o xr σ (E.mono st)
  | ok xs s =>
    rw [q] at h
    intro w1 es st vs r p hp
    subst es
    have z := step_new st.rel hp (.lst vs)
    have nz := free_zf st.rel hp
    have rv : RW X.K C { w1 with H := upd w1.H p (.lst vs) } (.d (.lst xs)) (.ref p) := rd_lst st.rel hp r
    exact h { w1 with H := upd w1.H p (.lst vs) } rfl (st.trans z) _ (((E.mono st).mono z).set rv)
theorem ss_lcN {i : Nat} {y : Str} {py : Pos} (hc : X.calm = true) (hN : X.N.Nodup) (hy : X.N[i]? = some y) (hyl : X.env.scope.names.lookup y = some .local) (hsw : swapsWith (.ListComp elt [⟨tg, iter, ifs, 0⟩] scope pos) (some (.Name y py)) spos.line X.env = pure true)
    (ok : BlkOk X.N X.env.scope scope own) (hi : SI C X tg iter it) (b : BQ C X scope tg ifs elt g t el sl) (hsl : ∀ i ∈ sl, i ∈ own.map (·.2)) (hs : ∀ x, foldedSetIterable iter X.env x = pure x := by intro _; rfl) :
    SS C X (.Assign [.Name y py] (.ListComp elt [⟨tg, iter, ifs, 0⟩] scope pos) spos) (sAsg (cNew (lLc it g t el (own.map (·.2)))) (gNm i)) := by
  intro P U w env σ D tk R E h
  refine sx_of (ps_setLc hc hN hy hyl hsw pi_ix ok (fun s H B cl fp => pg_gb) (fun s H B cl fp => pts_b) (fun s H B cl fp => pe_b) hs) ?_
  refine lc_read (U := U) b hi hsl tk R E ?_
  unfold sAsg cNew at h
  cases q : lLc it g t el (own.map (·.2)) env w.s with
  | bad => rw [q] at h; exact h
  | exc x s => rw [q] at h; exact fun w' es st c o xr => h w' es st c o xr σ (E.mono st)
  | ok xs s =>
    rw [q] at h
    intro w1 es st vs r p hp
    subst es
    have z := step_lst (K := X.K) st.rel hp r
    have rv : RW X.K C ⟨fun a => w1.Zf a ∨ a ∈ foot (p, p) (.lst xs), fun i => if i = w1.s.nx then (p, p) else w1.m i, w1.s.add (.lst xs), upd w1.H p (.lst vs)⟩ (.ref w1.s.nx) (.ref p) := ⟨Nat.lt_succ_self _, by simp⟩
    exact h _ rfl (st.trans z) _ (((E.mono st).mono z).set rv)
/-! ### two clauses -/
def inner (g1 : TG) (el : CE) (e0 : Env) (Rs : S → RS (List D)) (l : List D) (s : S) : RS (List D) := (lcAll g1 yes el e0 l s).ck fun zs s3 => (Rs s3).ck fun ws s4 => .ok (zs ++ ws) s4
theorem inner_nil {g1 : TG} {e0 : Env} {Rs : S → RS (List D)} {s : S} {acc : List D} : pre acc (inner g1 el e0 Rs [] s) = pre acc (Rs s) := by
  unfold inner lcAll
  simp only [RS.ck]
  cases Rs s <;> rfl
theorem inner_cons {g1 : TG} {e0 : Env} {Rs : S → RS (List D)} {x : D} {l : List D} {s : S} : inner g1 el e0 Rs (x :: l) s = (g1 (.d x) e0 s).ck fun e1 s1 => (yes e1 s1).ck fun b s2 => if b then (el e1 s2).ck fun w s3 => match w with
      | .d y => (inner g1 el e0 Rs l s3).ck fun ys s4 => .ok (y :: ys) s4
      | .ref _ => .bad
    else inner g1 el e0 Rs l s2 := by
  unfold inner
  rw [lcAll]
  cases g1 (.d x) e0 s with
  | bad => rfl
  | exc _ _ => rfl
  | ok e1 s1 =>
    simp only [RS.ck, yes, if_true]
    cases el e1 s1 with
    | bad => rfl
    | exc _ _ => rfl
    | ok w s3 =>
      cases w with
      | ref _ => rfl
      | d y =>
        dsimp only
        cases lcAll g1 yes el e0 l s3 with
        | bad => rfl
        | exc _ _ => rfl
        | ok zs s4 =>
          dsimp only
          cases Rs s4 <;> rfl
variable {tg1 iter1 : Expr} {it1 : CI} {g1 : TG} {sl1 vs1 : List Nat}
theorem lc_inner (b : BQ C X scope tg1 [] elt g1 yes el sl1) (hsl : ∀ i ∈ sl1, i ∈ vs1) {w3 : Wd} {acc0 : List D} {accV0 : List V} {ys : List D} {Rs : S → RS (List D)} {σ2 : L2.St} {e1 : Env} {Nx : Hp → Prop} (R : Rel X.K C (hidP P Dl) w3) (h0 : ∀ o, P.H0 Dl = some o → P.own0 Dl) (E : RE X.K C w3 e1 σ2)
    (hD : w3.H Dl = some (.lst accV0)) (hA : RDs X.K C w3.Zf w3.H acc0 accV0) (hj : JAll X.K C w3 ys J) (h : OutL X.K C P U σ w1 (pre acc0 (inner g1 el (wipeE e1 vs1) Rs ys w3.s)) Q)
    (nx : ∀ w' acc' accV', Step X.K C (hidP P Dl) w3 w' → w'.H Dl = some (.lst accV') → RDs X.K C w'.Zf w'.H acc' accV' → OutL X.K C P U σ w1 (pre acc' (Rs w'.s)) Q → Nx w'.H) :
    ∃ W : Nat → Nat → Hp → Prop, (∃ m, W 0 m w3.H) ∧ ∀ i m H, W i m H →
      (J.stop i H ∧ Nx H) ∨ (J.go i H ∧ ∃ Nx1 : Hp → Prop, (∀ H', Nx1 H' → ∃ m', m' < m ∧ W (i + 1) m' H') ∧ ∀ x H', J.yld i H x H' → GB X scope tg1 x (wipe σ2 vs1) H' fun σ3 H2 => wipe σ3 vs1 = wipe σ2 vs1 ∧ TsB X scope [] σ3 H2 fun b H3 =>
        if b = true then EB X scope elt σ3 H3 fun y H4 => ∃ acc, H4 Dl = some (.lst acc) ∧ acc.length < sizeLine ∧ Nx1 (upd H4 Dl (.lst (acc ++ [y]))) else Nx1 H3) := by
  refine ⟨fun i m H => ∃ (wi : Wd) (acc : List D) (accV : List V), H = wi.H ∧ Step X.K C (hidP P Dl) w3 wi ∧ wi.H Dl = some (.lst accV) ∧ RDs X.K C wi.Zf wi.H acc accV ∧ m = ys.length - i ∧ OutL X.K C P U σ w1 (pre acc (inner g1 el (wipeE e1 vs1) Rs (ys.drop i) wi.s)) Q,
    ⟨_, w3, acc0, accV0, rfl, .refl R, hD, hA, rfl, by rw [List.drop_zero]; exact h⟩, ?_⟩
  rintro i m _ ⟨wi, acc, accV, rfl, s1, hD, hA, rfl, h1⟩
  obtain ⟨j1, j2⟩ := hj wi s1.ex i
  cases ex : ys[i]? with
  | none =>
    have hl2 : ys.length ≤ i := List.getElem?_eq_none_iff.mp ex
    rw [List.drop_eq_nil_of_le hl2, inner_nil] at h1
    exact .inl ⟨j2 hl2, nx wi acc accV s1 hD hA h1⟩
  | some x =>
    obtain ⟨hl2, _⟩ := List.getElem?_eq_some_iff.mp ex
    obtain ⟨go, yl⟩ := j1 x ex
    refine .inr ⟨go, fun H' => ∃ (wi : Wd) (acc : List D) (accV : List V), H' = wi.H ∧ Step X.K C (hidP P Dl) w3 wi ∧ wi.H Dl = some (.lst accV) ∧ RDs X.K C wi.Zf wi.H acc accV ∧ OutL X.K C P U σ w1 (pre acc (inner g1 el (wipeE e1 vs1) Rs (ys.drop (i + 1)) wi.s)) Q, ?_, ?_⟩
    · rintro _ ⟨w2, acc2, accV2, rfl, k1, k2, k3, k5⟩
      exact ⟨ys.length - (i + 1), by omega, w2, acc2, accV2, rfl, k1, k2, k3, rfl, k5⟩
    · intro v H' yy
      obtain ⟨y, rx⟩ := yl v H' yy (turnP P wi Dl) (turn_in s1.rel)
      have ed : ys.drop i = x :: ys.drop (i + 1) := by
        rw [List.drop_eq_getElem_cons hl2]
        congr 1
      rw [ed, inner_cons] at h1
      exact lc_turn (σ := σ2) (env := e1) (vs := vs1) (σo := σ) (rest := inner g1 el (wipeE e1 vs1) Rs (ys.drop (i + 1))) b hsl s1.rel h0 ((RE.wipe E vs1).mono s1) hD hA y rx h1 fun w' acc' accV' so k1 k2 k4 => ⟨w', acc', accV', rfl, s1.trans so, k1, k2, k4⟩
def IB (X : Cx) (scope : Scope) (tg it : Expr) : TI := fun σ H R => ∀ s H' B cl fp, IX (bk X scope s H' B cl fp) tg it σ H R
theorem pi_b {s : Shared} {H : Hp} {B : Addr} {cl : List (Str × Addr)} {fp : List Addr} : PI (bk X scope s H B cl fp) tg iter (IB X scope tg iter) := ⟨fun pins s1 σ H1 R I h => h s H B cl fp pins s1 I⟩
theorem lc_all2 (hg : ∀ s H B cl fp, SG C (bk X scope s H B cl fp) tg g sl) (hi1 : ∀ s H B cl fp, SI C (bk X scope s H B cl fp) tg1 iter1 it1) (b : BQ C X scope tg1 [] elt g1 yes el sl1) (hsl : ∀ i ∈ sl, i ∈ vs) (hsl1 : ∀ i ∈ sl1, i ∈ vs1) (R : Rel X.K C P w1) (E : RE X.K C w1 env σ) {xs : List D} (hj : JAll X.K C w1 xs J)
    (h : OutL X.K C P U σ w1 (pre [] (lcAll2 g it1 g1 el vs1 (wipeE env vs) xs w1.s)) Q) (hD0 : w1.H Dl = none) :
    ∃ W : Nat → Nat → Hp → Prop, (∃ m, W 0 m (upd w1.H Dl (.lst []))) ∧ ∀ i m H, W i m H →
      (J.stop i H ∧ Q (.ref Dl) H) ∨ (J.go i H ∧ ∃ Nx : Hp → Prop, (∀ H', Nx H' → ∃ m', m' < m ∧ W (i + 1) m' H') ∧ ∀ x H', J.yld i H x H' → GB X scope tg x (wipe σ vs) H' fun σ2 H2 => wipe σ2 vs = wipe σ vs ∧ TsB X scope [] σ2 H2 fun b H3 =>
        if b = true then IB X scope tg1 iter1 σ2 H3 fun J1 H4 => ∃ W1 : Nat → Nat → Hp → Prop, (∃ m, W1 0 m H4) ∧ ∀ j k H, W1 j k H →
          (J1.stop j H ∧ Nx H) ∨ (J1.go j H ∧ ∃ Nx1 : Hp → Prop, (∀ H', Nx1 H' → ∃ k', k' < k ∧ W1 (j + 1) k' H') ∧ ∀ x H', J1.yld j H x H' → GB X scope tg1 x (wipe σ2 vs1) H' fun σ3 H5 => wipe σ3 vs1 = wipe σ2 vs1 ∧ TsB X scope [] σ3 H5 fun b H6 =>
            if b = true then EB X scope elt σ3 H6 fun y H7 => ∃ acc, H7 Dl = some (.lst acc) ∧ acc.length < sizeLine ∧ Nx1 (upd H7 Dl (.lst (acc ++ [y]))) else Nx1 H6)
        else Nx H3) := by
  have h0 : ∀ o, P.H0 Dl = some o → P.own0 Dl := fun o q => Classical.byContradiction fun z => by
    rw [R.keep Dl o q z] at hD0
    cases hD0
  obtain ⟨r0, e0⟩ := hid_start R hD0 (.lst [])
  have s0 : Step X.K C (hidP P Dl) w1 ⟨fun a => w1.Zf a ∨ a = Dl, w1.m, w1.s, upd w1.H Dl (.lst [])⟩ := ⟨r0, e0.ext, e0.zm, fun _ _ => rfl, Nat.le_refl _⟩
  refine ⟨fun i m H => ∃ (wi : Wd) (acc : List D) (accV : List V), H = wi.H ∧ Step X.K C (hidP P Dl) w1 wi ∧ wi.H Dl = some (.lst accV) ∧ RDs X.K C wi.Zf wi.H acc accV ∧ m = xs.length - i ∧ OutL X.K C P U σ w1 (pre acc (lcAll2 g it1 g1 el vs1 (wipeE env vs) (xs.drop i) wi.s)) Q,
    ⟨_, _, [], [], rfl, s0, upd_same, .nil, rfl, by rw [List.drop_zero]; exact h⟩, ?_⟩
  rintro i m _ ⟨wi, acc, accV, rfl, s1, hD, hA, rfl, h1⟩
  obtain ⟨j1, j2⟩ := hj wi s1.ex i
  cases ex : xs[i]? with
  | none =>
    have hl2 : xs.length ≤ i := List.getElem?_eq_none_iff.mp ex
    rw [List.drop_eq_nil_of_le hl2] at h1
    exact .inl ⟨j2 hl2, lc_end R hD0 s1 hD hA h1⟩
  | some x =>
    obtain ⟨hl2, _⟩ := List.getElem?_eq_some_iff.mp ex
    obtain ⟨go, yl⟩ := j1 x ex
    refine .inr ⟨go, fun H' => ∃ (wi : Wd) (acc : List D) (accV : List V), H' = wi.H ∧ Step X.K C (hidP P Dl) w1 wi ∧ wi.H Dl = some (.lst accV) ∧ RDs X.K C wi.Zf wi.H acc accV ∧ OutL X.K C P U σ w1 (pre acc (lcAll2 g it1 g1 el vs1 (wipeE env vs) (xs.drop (i + 1)) wi.s)) Q, ?_, ?_⟩
    · rintro _ ⟨w2, acc2, accV2, rfl, k1, k2, k3, k5⟩
      exact ⟨xs.length - (i + 1), by omega, w2, acc2, accV2, rfl, k1, k2, k3, rfl, k5⟩
    · intro v H' yy
      obtain ⟨y, rx⟩ := yl v H' yy (turnP P wi Dl) (turn_in s1.rel)
      have ed : xs.drop i = x :: xs.drop (i + 1) := by
        rw [List.drop_eq_getElem_cons hl2]
        congr 1
      rw [ed, lcAll2, pre_ck] at h1
      intro t0 HH B cl fp
      refine (hg t0 HH B cl fp).run (turnP P wi Dl) _ { wi with H := H' } (wipeE env vs) (wipe σ vs) (.d x) v _ takes_no y.rel (((RE.wipe E vs).mono s1).mono y) rx ?_
      cases eg : g (.d x) (wipeE env vs) wi.s with
      | bad => rw [eg] at h1; exact h1.elim
      | exc z s => rw [eg] at h1; exact h1.elim
      | ok e1 sg =>
        rw [eg] at h1
        intro w2 es st2 σ2 hE
        obtain ⟨E2, off⟩ := hE
        subst es
        have y2 := y.trans st2
        refine ⟨?_, ?_⟩
        · have k1 := wipe_set (vs := vs) off.1 fun i hi => off.2 i fun q => hi (hsl i q)
          rw [k1]
          exact wipe_set (by rw [wipe_length]) fun i hi => wipe_out hi
        · intro t0 HH B cl fp
          refine tsx_of pts_nil ?_
          simp only [tYes, if_true]
          intro t0 HH B cl fp
          dsimp only at h1
          rw [pre_ck] at h1
          refine hi1 t0 HH B cl fp (turnP P wi Dl) _ w2 e1 σ2 _ takes_no st2.rel E2 ?_
          cases ei : it1 e1 w2.s with
          | bad => rw [ei] at h1; exact h1.elim
          | exc z s => rw [ei] at h1; exact h1.elim
          | ok J0 s3 =>
            rw [ei] at h1
            intro w3 es3 st3 J1 rj
            subst es3
            cases J0 with
            | at_ _ _ => exact h1.elim
            | all ys =>
              have so := turn_out s1.rel (y2.trans st3)
              refine lc_inner (Rs := lcAll2 g it1 g1 el vs1 (wipeE env vs) (xs.drop (i + 1))) b hsl1 so.rel h0 (E2.mono st3) (turn_D hD s1.rel (y2.trans st3)) (RDs.mono so.ex _ _ hA) rj h1 fun w' acc' accV' sw k1 k2 k3 => ⟨w', acc', accV', rfl, s1.trans (so.trans sw), k1, k2, k3⟩
theorem sn_lc2 (hc : X.calm = true) (hN : X.N.Nodup) (ok : BlkOk X.N X.env.scope scope own) (hi : SI C X tg iter it) (hg : ∀ s H B cl fp, SG C (bk X scope s H B cl fp) tg g sl) (hi1 : ∀ s H B cl fp, SI C (bk X scope s H B cl fp) tg1 iter1 it1) (b : BQ C X scope tg1 [] elt g1 yes el sl1)
    (hsl : ∀ i ∈ sl, i ∈ own.map (·.2)) (hsl1 : ∀ i ∈ sl1, i ∈ vs1) (hv : ∀ i ∈ vs1, i ∈ own.map (·.2)) (hs : ∀ x, foldedSetIterable iter X.env x = pure x := by intro _; rfl) (hs1 : ∀ env x, foldedSetIterable iter1 env x = pure x := by intro _ _; rfl) :
    SN C X (.ListComp elt [⟨tg, iter, [], 0⟩, ⟨tg1, iter1, [], 0⟩] scope pos) (lLc2 it g it1 g1 el (own.map (·.2)) vs1) := by
  intro P U w env σ Q tk R E h
  refine ex_of (pe_lc2 hc hN pi_ix ok hv (fun s H B cl fp => pg_gb) (fun s H B cl fp => pts_b) (fun s H B cl fp => pi_b) (fun s H B cl fp => pg_gb) (fun s H B cl fp => pts_b) (fun s H B cl fp => pe_b) hs hs1) ?_
  refine hi P U w env σ _ tk R E (OutL.bind h fun w1 J0 J st rj h1 D hD => ?_)
  cases J0 with
  | all xs => exact lc_all2 hg hi1 b hsl hsl1 st.rel (E.mono st) rj h1 hD
  | at_ j n => exact h1.elim
theorem ss_lc2F {i : Nat} {y : Str} {py : Pos} (hc : X.calm = true) (hN : X.N.Nodup) (hy : X.N[i]? = some y) (hyl : X.env.scope.names.lookup y = some .local) (hsw : swapsWith (.ListComp elt [⟨tg, iter, [], 0⟩, ⟨tg1, iter1, [], 0⟩] scope pos) (some (.Name y py)) spos.line X.env = pure true)
    (ok : BlkOk X.N X.env.scope scope own) (hi : SI C X tg iter it) (hg : ∀ s H B cl fp, SG C (bk X scope s H B cl fp) tg g sl) (hi1 : ∀ s H B cl fp, SI C (bk X scope s H B cl fp) tg1 iter1 it1) (b : BQ C X scope tg1 [] elt g1 yes el sl1)
    (hsl : ∀ i ∈ sl, i ∈ own.map (·.2)) (hsl1 : ∀ i ∈ sl1, i ∈ vs1) (hv : ∀ i ∈ vs1, i ∈ own.map (·.2)) (hs : ∀ x, foldedSetIterable iter X.env x = pure x := by intro _; rfl) (hs1 : ∀ env x, foldedSetIterable iter1 env x = pure x := by intro _ _; rfl) :
    SS C X (.Assign [.Name y py] (.ListComp elt [⟨tg, iter, [], 0⟩, ⟨tg1, iter1, [], 0⟩] scope pos) spos) (sAsg (cFrz (lLc2 it g it1 g1 el (own.map (·.2)) vs1)) (gNm i)) := by
  intro P U w env σ D tk R E h
  refine sx_of (ps_setLc2 hc hN hy hyl hsw pi_ix ok hv (fun s H B cl fp => pg_gb) (fun s H B cl fp => pts_b) (fun s H B cl fp => pi_b) (fun s H B cl fp => pg_gb) (fun s H B cl fp => pts_b) (fun s H B cl fp => pe_b) hs hs1) ?_
  have hL : OutL X.K C P U σ w (lLc2 it g it1 g1 el (own.map (·.2)) vs1 env w.s) (fun x H1 => gName i x σ H1 D.nx) := by
    unfold sAsg cFrz at h
    cases q : lLc2 it g it1 g1 el (own.map (·.2)) vs1 env w.s with
    | bad => rw [q] at h; exact h
    | exc x s => rw [q] at h; exact fun w' es st c o xr => h w' es st c o xr σ (E.mono st)
    | ok xs s =>
      rw [q] at h
      intro w1 es st vs r p hp
      subst es
      have z := step_new st.rel hp (.lst vs)
      have rv : RW X.K C { w1 with H := upd w1.H p (.lst vs) } (.d (.lst xs)) (.ref p) := rd_lst st.rel hp r
      exact h { w1 with H := upd w1.H p (.lst vs) } rfl (st.trans z) _ (((E.mono st).mono z).set rv)
  refine hi P U w env σ _ tk R E (OutL.bind hL fun w1 J0 J st rj h1 Dl hD => ?_)
  cases J0 with
  | all xs => exact lc_all2 hg hi1 b hsl hsl1 st.rel (E.mono st) rj h1 hD
  | at_ j n => exact h1.elim
end
end Z
end

section
set_option Elab.async false
set_option linter.all false
set_option maxRecDepth 100000
set_option maxHeartbeats 4000000
/-! An own exception class whose init says super().__init__(f); self.f = f. -/
namespace Z
open PySem PySem.Spec PyProof.Rows L2
/-- the init's body -/
def suBody (f : Str) (p0 p1 p2 p3 p4 p5 p6 p7 p8 p9 : Pos) : List Stmt := [.Expr (.Call (.Attribute (.Call (.Name "super" p0) [] [] p1) "__init__" p2) [.Name f p3] [] p4) p5, .Assign [.Attribute (.Name "self" p6) f p7] (.Name f p8) p9]
/-- what is said of the two statements by their places -/
structure SuP (env : PySem.Env) (f : Str) (p0 p1 p2 p3 p4 p5 p6 p7 p8 p9 : Pos) (pl : Sem Bool) : Prop where
  ev : eval (.Call (.Attribute (.Call (.Name "super" p0) [] [] p1) "__init__" p2) [.Name f p3] [] p4) env = (do
      let ov ← attributeBase (.Call (.Name "super" p0) [] [] p1) "__init__" env (eval (.Call (.Name "super" p0) [] [] p1) env)
      standAt p2.atName
      let (f', first) ← holding [ov] (getMethod ov "__init__" pl)
      callWith p4 f' first (backTo p4 (starEach [.Name f p3] env)) [])
  sw : swapsWith (.Call (.Attribute (.Call (.Name "super" p0) [] [] p1) "__init__" p2) [.Name f p3] [] p4) none p5.line env = pure false
  sa : swapsWith (.Name f p8) (some (.Attribute (.Name "self" p6) f p7)) p9.line env = pure false
/-- what the written part says of the class at C and its init -/
structure SuC (K : PySem.W.Frag) (main : Str) (C : Addr) (f : Str) (B newId initId : String) (bmB : List Value) : Prop where
  base : ExcBaseFacts B newId initId bmB
  store : StoreFacts B bmB "object.__setattr__" "object"
  kx : PySem.W.KxsFacts B initId
  q : PySem.W.excInitIn K C bmB newId = true
  over : PySem.W.excOver K C bmB = true
  kp : PySem.W.keepIn K (.ref C) = true
  exC : PySem.W.subIn K (.ref C) (.type "BaseException") = some true
  tyC : PySem.W.typeIn K (.ref C) = some (.type "type")
  sub : PySem.W.subIn K (.ref C) (.type B) = some true
  mro : PySem.W.mroIn K C (.ref C) = some true
  sup : PySem.W.ks_superIn K C C "__init__" = some (some (.builtin initId))
  super : PySem.W.nsIn K mainGlobals "super" = some none
  third : PySem.W.nsIn K cStatics "thirdparty.any" = some none
  sa : PySem.W.findIn K (.ref C) "__setattr__" = some (some (.builtin "object.__setattr__"))
  tk : PySem.W.takerIn K C f = some none
  hd : PySem.W.hasDictIn K C = true
  fn : ∃ (fI cc cda : Addr) (name qual : Str) (params : Arguments) (p0 p1 p2 p3 p4 p5 p6 p7 p8 p9 : Pos) (scope : Scope) (dV kV doc pm : Value) (an : Option Addr) (ct oc ccl cl : Value) (od cdd cld : Option Addr) (osl ccs csl : Array (Option Value)) (vs : Array Value) (file : Str) (tf : Tok) (ar : Arg) (cdC : ClassData) (pl : Sem Bool),
    PySem.W.findIn K (.ref C) "__init__" = some (some (.ref fI)) ∧ PySem.W.isFn K (.ref fI) = true ∧ K.lookup fI = some ⟨oc, od, .func (PySem.W.ksFn name qual params (suBody f p0 p1 p2 p3 p4 p5 p6 p7 p8 p9) scope dV kV doc pm an (.ref cda) ct cc), osl⟩ ∧ PySem.W.codeIn K (.ref cda) qual = true ∧
    K.lookup cda = some ⟨ccl, cdd, .fields vs, ccs⟩ ∧ vs[2]? = some (.str file tf) ∧ (main == file) = true ∧ K.lookup cc = some ⟨cl, cld, .cell (some (.ref C)), csl⟩ ∧ PySem.W.clsIn K C = some cdC ∧
    (∀ u v, bindArgs (PySem.W.ksFn name qual params (suBody f p0 p1 p2 p3 p4 p5 p6 p7 p8 p9) scope dV kV doc pm an (.ref cda) ct cc) ⟨[u, v], []⟩ = pure [(("self" : Str), u), (f, v)]) ∧ (params.posonlyargs ++ params.args).head? = some ar ∧ ar.arg = "self" ∧
    scope.kind = .function ∧ scope.isCoroutine = false ∧ scope.isGenerator = false ∧ (∀ x ∈ scope.names, x.2 ≠ .cell) ∧ scope.names.lookup ("super" : Str) = some .globalImplicit ∧ scope.names.lookup ("__class__" : Str) = some .free ∧ scope.names.lookup ("self" : Str) = some .local ∧ scope.names.lookup f = some .local ∧ (∀ L, SuP (PySem.W.ksEnv qual scope L fI (.ref cda) cc) f p0 p1 p2 p3 p4 p5 p6 p7 p8 p9 pl)
  fself : f ≠ "self"
  fdb : (f == ("__debug__" : Str)) = false
section
variable {X : Cx} {pins : List (Addr × Obj)} {σ : L2.St} {H : Hp} {s : Shared} {C : Addr} {f : Str} {B newId initId : String} {bmB : List Value} {v : V} {u : Value} {Q : XK}
theorem mk_super (T : SuC X.K X.prog.main.file C f B newId initId bmB) (htop : (X.prog.main.scope.names.lookup ("super" : Str)).isSome = false) (hr : Room 1 X.A) (I : Inv X pins σ H s) (rv : RelV v u) (h : ∀ d, H d = none → Q (.ref C) (some d) (upd H d (.xd [(f, v)]))) :
    wpAny (model X.prog X.w) X.A (call (.ref C) [u]) (MkP X pins σ Q) X.xe s := by
  obtain ⟨fI, cc, cda, name, qual, params, p0, p1, p2, p3, p4, p5, p6, p7, p8, p9, scope, dV, kV, doc, pm, an, ct, oc, ccl, cl, od, cdd, cld, osl, ccs, csl, vs, file, tf, ar, cdC, pl, hi, hf, ho, hcd, hcode, hvs, hfile, hcell, hcls, hbind, har, harn, sk, sco, sgen, scell, ss, sc, sself, sf, hSP⟩ := T.fn
  obtain ⟨hp, g, dr, tk, os⟩ := s
  have KX : X.K.In hp := I.kIn
  obtain ⟨nm, N', qn, bs, bm, hdct, sn, sub, ab, col, dd, k0, k1, k2, k3, k5, hC, hT⟩ := PySem.W.excInit_of KX T.q
  obtain ⟨oI, hoI, hcI⟩ : ∃ oI, hp.get? fI = some oI ∧ oI.cls = .type "function" := by
    obtain ⟨o, ho, hc⟩ := Option.map_eq_some_iff.mp (show (X.K.lookup fI).map (·.cls) = some (.type "function") from beq_iff_eq.mp hf)
    exact ⟨o, KX _ _ ho, hc⟩
  refine wpAny_call (PySem.HandSPX.call_own T.base hT hC (PySem.W.looks_findIn KX hi) (fun self => PySem.W.exc_bind hoI hcI self) (by rw [sizeLine_eq]; show 1 ≤ 16777216; decide) ?_)
  have kk : ∀ b o, hp.get? b = some o → ((hp.push (PySem.W.kdv_tup [u])).push (PySem.HandSPX.excO C hp.objs.size)).get? b = some o := fun b o e => Heap.get?_push_of_some _ (Heap.get?_push_of_some _ e)
  have he : ((hp.push (PySem.W.kdv_tup [u])).push (PySem.HandSPX.excO C hp.objs.size)).get? (hp.objs.size + 1) = some (PySem.HandSPX.excO C hp.objs.size) := by heap_get
  have hsz2 : ((hp.push (PySem.W.kdv_tup [u])).push (PySem.HandSPX.excO C hp.objs.size)).objs.size = hp.objs.size + 2 := by rw [Heap.size_push, Heap.size_push]
  generalize (hp.push (PySem.W.kdv_tup [u])).push (PySem.HandSPX.excO C hp.objs.size) = hp2 at kk he hsz2 ⊢
  have KX2 : X.K.In hp2 := KX.keeps kk
  refine PySem.ks_codeAny_call_defAt (body := suBody f p0 p1 p2 p3 p4 p5 p6 p7 p8 p9) (binds := [(("self" : Str), .ref (hp.objs.size + 1)), (f, u)]) (hr.make C [u] []).depth (KX2 _ _ ho) rfl (I.nolimit.keeps kk) (PySem.W.codeRec_of KX2 hcd) rfl (.of_eq (hbind _ _)) scell (fun y hy => ?_) (fun h1 hns hk1 => ?_) sco sgen sk
  · rcases List.mem_cons.mp hy with z | hy
    · rw [z]; exact sself
    · rcases List.mem_cons.mp hy with z | hy
      · rw [z]; exact sf
      · cases hy
  generalize hE : hp.objs.size + 1 = e at he ⊢
  -- the ground: all but the exception
  have hG : ∀ b o, hp2.get? b = some o → b ≠ e → (PySem.W.hideAll hp2 [e]).get? b = some o := fun b o q n => PySem.W.hideAll_get _ q (by simpa using n)
  have elt : e < hp2.objs.size := by rw [hsz2, ← hE]; exact Nat.lt_succ_self _
  have F1 : Fr (PySem.W.hideAll hp2 [e]) hp2.objs.size h1 (fun y => ([(("self" : Str), Value.ref e), (f, u)] : List (Str × Value)).reverse.lookup y) := ⟨by rw [← hE]; exact hns, fun b o q => hk1 b o (PySem.W.of_hideAll _ q), Nat.le_of_eq (PySem.W.hideAll_size _ _)⟩
  have he1 : h1.get? e = some (PySem.W.excObj C hp.objs.size none .none) := hk1 _ _ he
  have N1 : News (PySem.W.hideAll hp2 [e]) hp2.objs.size h1 [(e, PySem.W.excObj C hp.objs.size none .none)] := fun p hpp => by
    obtain rfl : p = (e, PySem.W.excObj C hp.objs.size none .none) := by simpa using hpp
    exact ⟨he1, Nat.ne_of_lt elt, PySem.W.hideAll_none _ (by simp)⟩
  have XG : X.K.In (PySem.W.hideAll hp2 [e]) := fun b o q => hG b o (KX2 b o q) fun z => by
    have := Heap.lt_size (KX b o q)
    rw [z, ← hE] at this
    exact absurd this (Nat.not_lt.mpr (Nat.le_succ _))
  have I1 : PySem.W.InstAt h1 e (PySem.W.excObj C hp.objs.size none .none) C none := ⟨he1, rfl, rfl, trivial⟩
  have K1 : X.K.In h1 := XG.keeps F1.keep
  obtain ⟨oD, hD1, hD2⟩ : ∃ oD, h1.get? C = some oD ∧ oD.data = .cls cdC := by
    unfold PySem.W.clsIn at hcls
    split at hcls
    · cases hcls
      exact ⟨_, K1 _ _ ‹_›, rfl⟩
    · cases hcls
  obtain ⟨mb, hmb1, hmb2⟩ := I.mod.blt
  have gk : ∀ b o, X.base.get? b = some o → h1.get? b = some o := fun b o q => hk1 b o (kk b o (I.bk b o q))
  have nsf : (("self" : Str) == f) = false := beq_eq_false_iff_ne.mpr (Ne.symm T.fself)
  have mself : ([(("self" : Str), Value.ref e), (f, u)] : List (Str × Value)).reverse.lookup ("self" : Str) = some (Value.ref e) := by
    show ([(f, u), (("self" : Str), Value.ref e)] : List (Str × Value)).lookup ("self" : Str) = some (Value.ref e)
    rw [List.lookup_cons, nsf, List.lookup_cons_self]
  have mf : ([(("self" : Str), Value.ref e), (f, u)] : List (Str × Value)).reverse.lookup f = some u := by
    show ([(f, u), (("self" : Str), Value.ref e)] : List (Str × Value)).lookup f = some u
    rw [List.lookup_cons_self]
  have quiet : interactive (PySem.W.ksEnv qual scope hp2.objs.size fI (.ref cda) cc) = false := by
    have sk' : (PySem.W.ksEnv qual scope hp2.objs.size fI (.ref cda) cc).scope.kind = .function := sk
    unfold interactive
    rw [sk']
    rfl
  refine PySem.ks_wpAt_execs_cons (PySem.ks_wpAt_Expr_any (hi := quiet) (hs := (hSP hp2.objs.size).sw) (PySem.ks_wpAt_MethodCall (pl := pl) (he := (hSP hp2.objs.size).ev) (PySem.ks_wpAt_super_base (env := PySem.W.ksEnv qual scope hp2.objs.size fI (.ref cda) cc) ss sc (by decide) rfl (K1 _ _ ho) rfl har rfl (K1 _ _ hcode) rfl hvs hfile htop ?_)))
  refine PySem.W.ks_loadName_global sk ss (Calls.loadGlobal_builtin (env := PySem.W.ksEnv qual scope hp2.objs.size fI (.ref cda) cc) (I.mod.glob.keeps gk) (PySem.W.mg_none_of I.mod.kin I.mod.glob T.super) (hmb1.keeps gk) ((hmb2 _ (by decide)).trans (by decide +kernel)) ⟨rfl, ?_⟩)
  refine wpAny_loadName_free sk sc rfl ⟨_, K1 _ _ hcell, rfl⟩ ?_
  rw [harn]
  refine wpAny_loadName_local sk sself F1.ns mself ?_
  refine PySem.ks_wpAny_isType_cls hD1 hD2 ⟨rfl, ?_⟩
  refine PySem.ks_wpAny_call_super hD1 hD2 I1.at_ I1.cls (fun c q => by cases q) (PySem.W.looks_mroIn K1 T.mro) (fun h2 e2 k2 => ?_)
  obtain ⟨F2, N2, l2⟩ := PySem.W.ks_newsPush (s := ⟨h1, g, dr, tk + 2, os⟩) F1 N1 rfl e2 k2
  have I2 : PySem.W.InstAt h2 e (PySem.W.excObj C hp.objs.size none .none) C none := ⟨k2 _ _ he1, rfl, rfl, trivial⟩
  refine PySem.W.kxs_method T.kx F2 XG N2 (List.mem_cons_self ..) I2 T.third T.sup T.sub (by decide) fun q h3 F3 N3 l3 => ?_
  refine PySem.W.kxs_callWith1 N3 (List.mem_cons_self ..) ?_
  show wpAny _ _ (spliced [(false, eval (.Name f p3) _)]) _ _ _
  refine Calls.spliced_cons (ESX.ldL (env := PySem.W.ksEnv qual scope hp2.objs.size fI (.ref cda) cc) F3.ns mf (Calls.spliced_nil ⟨PySem.W.kxs_at N3 (List.mem_cons_self ..), ?_⟩) sk sf T.fdb)
  have qe : q ≠ e := Nat.ne_of_gt (l3 (e, PySem.W.excObj C hp.objs.size none .none) (by simp))
  have l2' : ∀ p ∈ [(e, PySem.W.excObj C hp.objs.size none .none)], p.1 < h1.objs.size := l2
  have soe : h1.objs.size ≠ e := Nat.ne_of_gt (l2' (e, PySem.W.excObj C hp.objs.size none .none) (by simp))
  refine PySem.W.kxs_call F3 XG N3 T.base T.q (List.mem_cons_self ..) (.tail qe (.tail soe (.head (fun _ h => nomatch h)))) (by rw [sizeLine_eq]; show 1 ≤ 16777216; decide) fun t4 h4 F4 N4 l4 => ?_
  have he4 : h4.get? e = some (PySem.W.excObj C t4 none .none) := (N4 (e, _) (by simp)).1
  have K4 : X.K.In h4 := XG.keeps F4.keep
  refine PySem.ks_wpAt_execs_cons (PySem.ks_wpAt_Assign_Attr (hs := (hSP hp2.objs.size).sa) (wpAt_of_wpAny (ESX.ldL (env := PySem.W.ksEnv qual scope hp2.objs.size fI (.ref cda) cc) F4.ns mf (ESX.ldL (env := PySem.W.ksEnv qual scope hp2.objs.size fI (.ref cda) cc) F4.ns mself ?_ sk sself (by decide)) sk sf T.fdb)))
  have I4 : PySem.W.InstAt h4 e (PySem.W.excObj C t4 none .none) C none := ⟨he4, rfl, rfl, trivial⟩
  obtain ⟨cd, hc, hd'⟩ := PySem.W.any_some T.hd
  have elt4 : e < h4.objs.size := Heap.lt_size he4
  refine PySem.W.set_plain (od := none) K4 I4 T.sa (PySem.W.osa_openX (od := none) T.store K4 I4 T.over T.tk fun b => ?_)
  refine wpAny_bind (wpAny_pure (wpAny_bind (PySem.W.instanceDict_exc he4 (PySem.W.looks_clsIn K4 hc) hd' ?_)))
  refine HandSPX.store_in_new ⟨_, #[], _, (Heap.get?_update_ne _ _ _ _ (Nat.ne_of_lt elt4).symm).trans (Heap.get?_push_at rfl rfl), rfl, fun e he => absurd he (by simp), fun _ => rfl⟩ fun h5 tk5 hn5 hs5 => ?_
  refine wpAt_of_wpAny (wpAny_execs_nil ⟨rfl, ?_⟩)
  show MkP X pins σ Q (.ref e) _
  have dne : h4.objs.size ≠ e := Nat.ne_of_gt elt4
  have he5 : h5.get? e = some (PySem.W.excObj C t4 (some h4.objs.size) .none) := (hs5.2 e dne.symm).trans (Heap.get?_update_self _ (Heap.get?_push_of_some _ he4) rfl)
  have hle : hp.objs.size ≤ e := by rw [← hE]; exact Nat.le_succ _
  have hle2 : hp.objs.size ≤ h4.objs.size := Nat.le_of_lt (Nat.lt_of_le_of_lt hle elt4)
  have k5 : ∀ b o, hp.get? b = some o → h5.get? b = some o := fun b o z => by
    have b1 : b < hp.objs.size := Heap.lt_size z
    have be : b ≠ e := Nat.ne_of_lt (Nat.lt_of_lt_of_le b1 hle)
    have b4 := F4.keep b o (hG b o (kk b o z) be)
    exact (hs5.2 b (Nat.ne_of_lt (Nat.lt_of_lt_of_le b1 hle2))).trans ((Heap.get?_update_ne _ _ _ _ be).trans (Heap.get?_push_of_some _ b4))
  have k6 : ∀ b o, hp.get? b = some o → (PySem.W.hideAll h5 [e]).get? b = some o := fun b o z => PySem.W.hideAll_get _ (k5 b o z) (by
    have b1 : b < hp.objs.size := Heap.lt_size z
    have be : b ≠ e := Nat.ne_of_lt (Nat.lt_of_lt_of_le b1 hle)
    simpa using be)
  have J := Inv.laid (a := h4.objs.size) (o := .xd [(f, v)]) (h' := PySem.W.hideAll h5 [e]) (t' := tk5) I k6 hle2 ⟨_, hn5.at (fun o z => PySem.W.hideAll_get _ z (by simpa using dne)), fun g => relO_put (fs := []) (mA := fun _ => none) rv (fun _ => trivial) g⟩
  exact ⟨e, _, _, _, _, .ref C, some h4.objs.size, rfl, J, fun b o z => PySem.W.of_hideAll _ z, PySem.W.hideAll_none _ (by simp), he5, ⟨rfl, rfl⟩, rfl, rfl, by rw [upd_ne dne.symm]; exact I.hok.fresh hle, rfl, I.bare, raises_own T.exC T.tyC, h _ (I.hok.fresh hle2)⟩
/-- X(e) -/
theorem pmk_super {x : Str} {e : Expr} {p pos : Pos} {te : TE} (T : SuC X.K X.prog.main.file C f B newId initId bmB) (htop : (X.prog.main.scope.names.lookup ("super" : Str)).isSome = false) (hr : Room 1 X.A) (gC : X.mg x = some (.ref C)) (he : PE X e te) (hg : Gl X x := by rfl) (hdb : (x == ("__debug__" : Str)) = false := by decide)
    (hs : starEach (e :: []) X.env = (false, eval e X.env) :: starEach [] X.env := by rfl) : PMk X (.Call (.Name x p) [e] [] pos) (fun σ H Q => te σ H fun v H1 => ∀ d, H1 d = none → Q (.ref C) (some d) (upd H1 d (.xd [(f, v)]))) := by
  intro pins s σ H Q I h
  refine wpAny_Call_Name_kw (ld_glob I hg gC ?_ hdb)
  have key : wpAny (model X.prog X.w) X.A (spliced (backTo pos (starEach [e] X.env))) (fun us s1 => X.K.In s1.heap ∧ wpAny (model X.prog X.w) X.A (call (.ref C) us) (MkP X pins σ Q) X.xe s1) X.xe s := by
    rw [hs]
    exact Calls.spliced_cons (thn (he.run pins s σ H _ I h) fun u s1 ⟨v, H1, I1, r, q⟩ => Calls.spliced_nil ⟨I1.kIn, mk_super T htop hr I1 r q⟩)
  exact PySem.W.callWith_K (first := []) (h₀ := X.base) I.ok.mod.kin T.kp key hs rfl
end
end Z
end

section
set_option Elab.async false
set_option linter.all false
set_option maxRecDepth 100000
set_option maxHeartbeats 4000000
/-! raise, try. -/
namespace Z
open PySem PySem.Spec PyProof.Rows L2
/-- a class that is raised with a text -/
structure MsC (K : PySem.W.Frag) (C : Addr) : Prop where
  ex : ∃ B newId initId bmB, ExcBaseFacts B newId initId bmB ∧ PySem.W.excIn K C bmB newId = true
  kp : PySem.W.keepIn K (.ref C) = true
  exC : PySem.W.subIn K (.ref C) (.type "BaseException") = some true
  tyC : PySem.W.typeIn K (.ref C) = some (.type "type")
section
variable {C : Cg} {X : Cx} {P : Pm} {w w1 w2 : Wd} {U : WX} {σ : L2.St} {env : Env} {e a b o : Expr} {es : List Expr} {p p2 pos pos' : Pos} {fa fb fe : CE} {x m : Str} {j c : Nat} {K : PySem.W.Frag} {st : Stmt} {sts : List Stmt}
theorem ss_never : SS C X st sNever := fun P U w env σ D tk R E h => h.elim
theorem sss_never : SSs C X sts sNever := fun P U w env σ D tk R E h => h.elim
theorem se_never : SE C X e (fun _ _ => .bad) := fun P U w env σ Q tk R E h => h.elim
theorem ss_raise {jj : Nat} (T : MsC X.K (C.cl c)) (hf : C.xf c = none) (hc : X.calm = true) (gC : X.mg x = some (.ref (C.cl c))) (hg : Gl X x := by rfl) (hdb : (x == ("__debug__" : Str)) = false := by decide) : SS C X (.Raise (some (.Call (.Name x p) [.Constant (.str m) jj p2] [] pos')) none pos) (sRaise c) := by
  obtain ⟨B, newId, initId, bmB, F, q⟩ := T.ex
  intro P U w env σ D tk R E h
  exact sx_of (ps_raise hc tk (pmk_own F q gC T.kp (raises_own T.exC T.tyC) hg hdb)) (h w rfl (.refl R) _ _ ⟨rfl, fun f z => by rw [hf] at z; cases z⟩ σ E)
theorem ss_raiseF {f : Str} (T : ∃ B newId initId bmB, SuC X.K X.prog.main.file (C.cl c) f B newId initId bmB) (htop : (X.prog.main.scope.names.lookup ("super" : Str)).isSome = false) (hr : Room 1 X.A) (hf : C.xf c = some f) (hc : X.calm = true) (gC : X.mg x = some (.ref (C.cl c))) (ha : SE C X a fa)
    (hg : Gl X x := by rfl) (hdb : (x == ("__debug__" : Str)) = false := by decide) (hs : starEach (a :: []) X.env = (false, eval a X.env) :: starEach [] X.env := by rfl) : SS C X (.Raise (some (.Call (.Name x p) [a] [] pos')) none pos) (sRaiseF c fa) := by
  obtain ⟨B, newId, initId, bmB, T⟩ := T
  intro P U w env σ D tk R E h
  refine sx_of (ps_raise hc tk (pmk_super T htop hr gC pe_ex hg hdb hs)) ?_
  refine ha.goF tk R E h fun w1 x v st ra E1 h1 d hd => ?_
  cases x with
  | ref _ => exact h1.elim
  | d x =>
    have z := step_new st.rel hd (.xd [(f, v)])
    refine h1 { w1 with H := upd w1.H d (.xd [(f, v)]) } rfl z _ _ ⟨rfl, fun g eg => ?_⟩ σ (E1.mono z)
    have : g = f := by
      have := hf.symm.trans eg
      exact (Option.some.inj this).symm
    subst this
    exact ⟨d, v, rfl, upd_same, free_zf st.rel hd, RD.mono z.ex _ _ ra⟩
/-! ### in a suite -/
/-- slot i holds the exception a, its dict at d tells x by f -/
structure Pay (K : PySem.W.Frag) (C : Cg) (i : Nat) (a d : Addr) (f : Str) (x : D) (w : Wd) (σ : L2.St) : Prop where
  slot : σ[i]? = some (some (.ref a))
  dict : ∃ v, w.H d = some (.xd [(f, v)]) ∧ ¬ w.Zf d ∧ RD K C w.Zf w.H x v
theorem Pay.mono {i : Nat} {a d : Addr} {f : Str} {x : D} (t : Step K C P w w1) (h : Pay K C i a d f x w σ) : Pay K C i a d f x w1 σ :=
  ⟨h.slot, let ⟨v, e1, e2, e3⟩ := h.dict; ⟨v, t.ext _ _ e1 e2, t.ex.nz e1 e2, RD.mono t.ex _ _ e3⟩⟩
def SQ (C : Cg) (X : Cx) (i : Nat) (aa d : Addr) (f : Str) (x : D) (e : Expr) (fe : CE) : Prop := ∀ (P : Pm) (U : WX) (w : Wd) (env : Env) (σ : L2.St) (Q : VK), Takes X U → Rel X.K C P w → RE X.K C w env σ → Pay X.K C i aa d f x w σ → Out X.K C P U σ (RW X.K C) w (fe env w.s) Q → EX X e σ w.H Q
def SQA (C : Cg) (X : Cx) (i : Nat) (aa d : Addr) (f : Str) (x : D) (es : List Expr) (fe : CA) : Prop := ∀ (P : Pm) (U : WX) (w : Wd) (env : Env) (σ : L2.St) (Q : List V → Hp → Prop), Takes X U → Rel X.K C P w → RE X.K C w env σ → Pay X.K C i aa d f x w σ → Out X.K C P U σ (RWs X.K C) w (fe env w.s) Q → AX X es σ w.H Q
variable {i : Nat} {aa d : Addr} {f : Str} {y : D}
theorem sq_of (h : SE C X e fe) : SQ C X i aa d f y e fe := fun P U w env σ Q tk R E _ o => h P U w env σ Q tk R E o
theorem sqa_nil : SQA C X i aa d f y [] aNil := fun P U w env σ Q tk R E _ h => ax_of pa_nil (out_ok R h (show RWs X.K C w [] [] from rfl))
theorem sqa_cons {f1 : CE} {f2 : CA} (ha : SQ C X i aa d f y e f1) (hr : SQA C X i aa d f y es f2) (hs : starEach (e :: es) X.env = (false, eval e X.env) :: starEach es X.env := by rfl) : SQA C X i aa d f y (e :: es) (aCons f1 f2) := by
  intro P U w env σ Q tk R E py h
  refine ax_of (pa_cons pe_ex pa_ax hs) ?_
  refine ha P U w env σ _ tk R E py (Out.bind h fun w1 x v st ra h1 => ?_)
  refine hr P U w1 env σ _ tk st.rel (E.mono st) (py.mono st) (Out.bind h1 fun w2 xs vs st2 rs h2 => ?_)
  exact out_ok st2.rel h2 ⟨v, vs, rfl, RW.mono st2 ra, rs⟩
theorem sq_tup {f1 : CA} {kt} (h0 : SQA C X i aa d f y es f1) : SQ C X i aa d f y (.Tuple es kt pos) (cTup f1) := by
  intro P U w env σ Q tk R E py h
  refine ex_of (pe_tup pa_ax) ?_
  refine h0 P U w env σ _ tk R E py (Out.bind h fun w1 ws vs st rs h1 => ?_)
  cases e1 : asDs ws with
  | none => rw [e1] at h1; exact h1.elim
  | some xs =>
    rw [e1] at h1
    dsimp only at h1
    have rd := asDs_v rs e1
    split at h1
    · rename_i hl
      refine ⟨by rw [← rd.length, ← lim_eq]; exact hl, fun p hp => ?_⟩
      exact h1 { w1 with H := upd w1.H p (.tup vs) } rfl (step_new st.rel hp _) (.ref p) (rd_tup st.rel hp rd)
    · exact h1.elim
end
section
variable {C : Cg} {X : Cx} {e E : Expr} {i c : Nat} {aa : Addr} {dd : Option Addr} {cls : Value} {oe : Obj} {d : Addr} {f n x : Str} {y : D} {pn : List (Addr × Obj)} {p pos np pos' : Pos} {body : List Stmt}
/-- e.f -/
theorem sq_xf (T : XfC X.K (C.cl c)) (hno : PySem.W.findIn X.K (.ref (C.cl c)) f = some none) (hz : Zc (.ref (C.cl c)) (some d) oe) (hf : ∃ vs, oe.data = .fields vs) (hi : X.N[i]? = some n) (hv : Vis X.env.scope n) (hdb : (n == ("__debug__" : Str)) = false) (hcd : (n == ("__classdict__" : Str)) = false)
    (hb : attributeBase (.Name n p) f X.env (eval (.Name n p) X.env) = eval (.Name n p) X.env := by rfl) : SQ C (X.suite aa ((aa, oe) :: pn)) i aa d f y (.Attribute (.Name n p) f pos) (cK y) := by
  intro P U w env σ Q tk R E py h
  obtain ⟨v, e1, e2, e3⟩ := py.dict
  exact ex_of (pe_xf (cls := .ref (C.cl c)) (d := some d) T hno hz hf (pe_var (X := X.suite aa ((aa, oe) :: pn)) hi hv hdb hcd) hb) ⟨.ref aa, py.slot, rfl, rfl, d, _, v, rfl, e1, by simp [List.lookup], h w rfl (.refl R) v e3⟩
/-- a try's body, in any of its contexts -/
def SXT (X : Cx) (body : List Stmt) : WX → TS := fun W D σ H => ∀ pn xe, Takes (X.tr pn xe) W → PassesOwn (model X.prog X.w) X.A X.env xe → SXs (X.tr pn xe) body D σ H
theorem ss_tryAs {b : CS} {h : D → CE} {mt : Nat → Option Bool} {xc : Value} (hs : X.stack = X.env :: X.outer) (hf : X.env.frame = some X.env.locals) (hN : X.N.Nodup) (hi : X.N[i]? = some n) (hln : X.env.kindOf n = some .local) (hx : Names X x xc)
    (hm : ∀ c b, mt c = some b → PySem.W.exmOne X.K (.ref (C.cl c)) xc = some b) (hfm : ∀ c, mt c = some true → C.xf c = some f)
    (hb : ∀ pn xe, PassesOwn (model X.prog X.w) X.A X.env xe → SSs C (X.tr pn xe) body b)
    (hE : ∀ c aa oe d pn y, mt c = some true → Zc (.ref (C.cl c)) (some d) oe → (∃ vs, oe.data = .fields vs) → SQ C (X.suite aa ((aa, oe) :: pn)) i aa d f y E (h y)) :
    SS C X (.Try body [.ExceptHandler (some (.Name x np)) (some n) [.Return (some E) p] pos'] [] [] pos) (sTryAs mt b i h) := by
  intro P U w env σ D tk R En hh
  refine sx_of (ps_try_as (tb := SXT X body) (ts := fun a cls d => fun D σ H => ∀ oe pn, Zc cls d oe → (∃ vs, oe.data = .fields vs) → SXs (X.suite a ((a, oe) :: pn)) [.Return (some E) p] D σ H) hs hf hN hi hln hx tk
    (fun W pn xe t po => ⟨fun pins s σ H D I q => q pn xe t po pins s I⟩) (fun a oe cls d pn z1 z2 => ⟨fun pins s σ H D I q => q oe pn z1 z2 pins s I⟩)) ?_
  intro pn xe t po
  refine hb pn xe po P (wAs X.K xc i _ U D) w env σ D t R En ?_
  unfold sTryAs at hh
  cases er : b env w.s with
  | nx e s => rw [er] at hh; exact hh
  | brk e s => rw [er] at hh; exact hh
  | cnt e s => rw [er] at hh; exact hh
  | ret e s => rw [er] at hh; exact hh
  | bad => rw [er] at hh; exact hh
  | exc x1 e1 s1 =>
    rw [er] at hh
    dsimp only at hh
    cases em : mt x1.c with
    | none => rw [em] at hh; exact hh.elim
    | some bb =>
      rw [em] at hh
      intro w1 es st c1 o xr σ1 E1
      subst es
      have hc1 : c1 = .ref (C.cl x1.c) := xr.1
      subst hc1
      refine ⟨bb, hm _ _ em, fun hbt a ha => ?_, fun hbf => ?_⟩
      · subst hbt
        dsimp only at hh
        intro oe pn' z1 z2
        obtain ⟨d, v, rfl, k1, k2, k3⟩ := xr.2 f (hfm _ em)
        intro pins0 s0 I0
        have hlt : i < σ1.length := by
          have hl := I0.len
          have hn := (List.getElem?_eq_some_iff.mp hi).1
          rw [List.length_set] at hl
          rw [hl]
          exact hn
        refine sxs_of (pss_one (ps_ret pe_ex)) ?_ pins0 s0 I0
        refine hE x1.c a oe d pn' x1.a em z1 z2 P (fun _ _ _ _ => False) w1 (e1.set i none) (σ1.set i (some (.ref a))) _ takes_no st.rel ⟨by simp [E1.len], fun j y hy => ?_⟩ ⟨List.getElem?_set_self hlt, v, k1, k2, k3⟩ ?_
        · by_cases hj : j = i
          · subst hj
            rw [List.getElem?_set_self (by rw [E1.len]; exact hlt)] at hy
            cases hy
          · rw [List.getElem?_set_ne (Ne.symm hj)] at hy ⊢
            exact E1.at_ j y hy
        · cases eh : h x1.a (e1.set i none) w1.s with
          | bad => rw [eh] at hh; exact hh.elim
          | exc _ _ => rw [eh] at hh; exact hh.elim
          | ok a2 s2 =>
            rw [eh] at hh
            exact fun w2 es2 st2 v2 rv2 => hh w2 es2 (st.trans st2) v2 rv2
      · subst hbf
        dsimp only at hh
        exact hh w1 rfl st _ _ xr σ1 E1
end
end Z
end

section
set_option Elab.async false
set_option linter.all false
set_option maxRecDepth 100000
set_option maxHeartbeats 4000000
/-! Methods of lists, of texts. -/
namespace Z
open PySem PySem.Spec PyProof.Rows L2
open AutoSeq1 (wpAny_loadPart')
theorem list_extend_tup (l : Addr) (items : Array Value) (n : Nat) (b : Addr) (items2 : Array Value) (n2 : Nat) (dct : Option Addr) (sl : Array (Option Value)) (hs0 : ¬(!items.isEmpty && Builtin.List.listTooLong (items.size + items2.size)) = true) (hs1 : items.size ≤ sizeLine) (hs2 : items.size + items2.size ≤ sizeLine + 1) :
    Meets (Builtin.«list.extend» ⟨[.ref l, .ref b], []⟩) (fun _ R s => s.heap.get? l = some { cls := .type "list", dict := none, data := .seq items n, slots := #[] } ∧ s.heap.get? b = some { cls := .type "tuple", dict := dct, data := .seq items2 n2, slots := sl } ∧ R (.ok (.ret Value.none)) { s with heap := s.heap.update l (Obj.mapSeq fun x => x ++ items2), toks := s.toks }) :=
  .of_wp fun prog w A R s h => by
    obtain ⟨hp, g, d, tk, os⟩ := s
    obtain ⟨hl, hb, h⟩ := h
    have f1 := AutoSeq1.idx_int
    have f2 := AutoSeq1.sub_tuple_tuple
    have f3 := AutoSeq1.sub_list_list
    have f4 := AutoSeq1.sub_tuple_list
    have f5 := AutoSeq1.sub_list_tuple
    have hz' : (items ++ items2).size ≤ sizeLine + 1 := by rw [Array.size_append]; exact hs2
    wp_walk using (wpAny_updateSeq hl rfl (hz := hs1) (_hz' := hz')), wpAny_loadPart' hl, wpAny_loadPart' hb
    exact ⟨_, rfl, h⟩
theorem list_extend_lst (l : Addr) (items : Array Value) (n : Nat) (b : Addr) (items2 : Array Value) (n2 : Nat) (dct : Option Addr) (sl : Array (Option Value)) (hs0 : ¬(!items.isEmpty && Builtin.List.listTooLong (items.size + items2.size)) = true) (hs1 : items.size ≤ sizeLine) (hs2 : items.size + items2.size ≤ sizeLine + 1) :
    Meets (Builtin.«list.extend» ⟨[.ref l, .ref b], []⟩) (fun _ R s => s.heap.get? l = some { cls := .type "list", dict := none, data := .seq items n, slots := #[] } ∧ s.heap.get? b = some { cls := .type "list", dict := dct, data := .seq items2 n2, slots := sl } ∧ R (.ok (.ret Value.none)) { s with heap := s.heap.update l (Obj.mapSeq fun x => x ++ items2), toks := s.toks }) :=
  .of_wp fun prog w A R s h => by
    obtain ⟨hp, g, d, tk, os⟩ := s
    obtain ⟨hl, hb, h⟩ := h
    have f1 := AutoSeq1.idx_int
    have f2 := AutoSeq1.sub_tuple_tuple
    have f3 := AutoSeq1.sub_list_list
    have f4 := AutoSeq1.sub_tuple_list
    have f5 := AutoSeq1.sub_list_tuple
    have hz' : (items ++ items2).size ≤ sizeLine + 1 := by rw [Array.size_append]; exact hs2
    wp_walk using (wpAny_updateSeq hl rfl (hz := hs1) (_hz' := hz')), wpAny_loadPart' hl, wpAny_loadPart' hb
    exact ⟨_, rfl, h⟩
theorem mt_extendA {X : Cx} : MtR X "list.extend" (fun x vs H Q => ∃ l b xs zs, x = .ref l ∧ vs = [.ref b] ∧ H l = some (.lst xs) ∧ (SqL X.K H b zs ∨ SqT X.K H b zs) ∧ xs.length + zs.length ≤ sizeLine ∧ Q .non (upd H l (.lst (xs ++ zs)))) := by
  intro pins s σ H x vs v us Q I rx rv h
  obtain ⟨l, b, xs, zs, rfl, rfl, hH, hB, hz, q⟩ := h
  cases rx
  obtain ⟨u, rfl, ru⟩ := rv.one
  cases ru
  obtain ⟨z, its, n, r, hl, e⟩ := I.lstM hH
  have fin : ∀ (its2 : List Value), Vals zs its2 → EP X pins σ Q .none { s with heap := s.heap.update l (Obj.mapSeq fun x => x ++ its2.toArray), toks := s.toks } := fun its2 r2 =>
    ⟨.non, _, I.lset (its' := its ++ its2) hH e (by simp) (r.append r2) (by rw [List.length_append]; omega), rfl, q⟩
  have long : ∀ its2 : List Value, zs.length = its2.length → ¬ (!its.toArray.isEmpty && Builtin.List.listTooLong (its.toArray.size + its2.toArray.size)) = true := fun its2 hl2 => by
    rw [notLongL (by rw [List.size_toArray, List.size_toArray]; omega), Bool.and_false]
    exact Bool.false_ne_true
  rcases hB with hB | hB
  · obtain ⟨its2, r2, ⟨o, n2, ho, hc, hd0, hd⟩, _⟩ := I.list hB
    have hl2 := r2.length
    obtain ⟨c, dct, dt, sl⟩ := o
    have hc : c = .type "list" := hc
    have hd : dt = .seq its2.toArray n2 := hd
    subst hc hd
    exact call_meets F.slot_list_extend ⟨_, e, rfl⟩ F.entry_list_extend (F.args_list_extend_2 _ _)
      (list_extend_lst l its.toArray n b its2.toArray n2 dct sl (long its2 hl2) (by rw [List.size_toArray]; omega) (by rw [List.size_toArray, List.size_toArray]; omega)) ⟨e, ho, fin its2 r2⟩
  · obtain ⟨its2, r2, ⟨o, ho, hc, n2, hd⟩, _⟩ := I.tuple hB
    have hl2 := r2.length
    obtain ⟨c, dct, dt, sl⟩ := o
    have hc : c = .type "tuple" := hc
    have hd : dt = .seq its2.toArray n2 := hd
    subst hc hd
    exact call_meets F.slot_list_extend ⟨_, e, rfl⟩ F.entry_list_extend (F.args_list_extend_2 _ _)
      (list_extend_tup l its.toArray n b its2.toArray n2 dct sl (long its2 hl2) (by rw [List.size_toArray]; omega) (by rw [List.size_toArray, List.size_toArray]; omega)) ⟨e, ho, fin its2 r2⟩
/-- list(a text) -/
theorem call_list_txt {X : Cx} (hc : X.calm = true) : CallR X (.type "list") (fun xs H Q => ∃ t : List Nat, xs = [vstr t] ∧ t.length ≤ sizeLine ∧ ∀ l, H l = none → Q (.ref l) (upd H l (.lst (t.map fun c => vstr [c])))) := by
  intro pins s σ H xs us Q I r h
  obtain ⟨t, rfl, hz, q⟩ := h
  obtain ⟨u, rfl, rx⟩ := r.one
  obtain ⟨tk, rfl⟩ := rx
  refine PySem.call_list_str (I.ok.hd hc) ⟨t.toArray⟩ tk (fun h' tk' acc' c' k e hi => ?_) (by simpa using hz)
  refine ⟨.ref s.heap.objs.size, _, I.laid (a := s.heap.objs.size) (o := .lst (t.map fun c => vstr [c])) k (Nat.le_refl _) ⟨by simpa using hz, acc'.toList, c', ?_, by simpa using e⟩, rfl, q _ I.fresh⟩
  obtain ⟨h1, h2⟩ := hi
  have hs : acc'.size = t.length := by simpa using h1
  have key : ∀ (us : List Value) (t : List Nat) (n : Nat), us.length = t.length → (∀ (j : Nat) (v : Value), us[j]? = some v → ∃ (c : Nat) (u : Tok), t[j]? = some c ∧ v = Value.str ⟨#[c]⟩ u) → Vals (t.map fun c => vstr [c]) us := by
    intro us
    induction us with
    | nil =>
      intro t _ hl _
      cases t with
      | nil => exact .nil
      | cons => cases hl
    | cons v us ih =>
      intro t n hl hh
      cases t with
      | nil => cases hl
      | cons c t =>
        obtain ⟨c', u, e1, e2⟩ := hh 0 v rfl
        have : c = c' := by simpa using e1
        subst this
        exact .cons ⟨u, e2⟩ (ih t n (by simpa using hl) fun j w hw => hh (j + 1) w (by simpa using hw))
  exact key acc'.toList t 0 (by simpa using hs) fun j v hv => by
    obtain ⟨c, u, e1, e2⟩ := h2 j v (by simpa using hv)
    exact ⟨c, u, by simpa using e1, e2⟩
theorem call_list_any {X : Cx} (hc : X.calm = true) : CallR X (.type "list") (fun xs H Q => (∃ p ys, xs = [.ref p] ∧ (SqL X.K H p ys ∨ SqT X.K H p ys) ∧ ∀ l, H l = none → Q (.ref l) (upd H l (.lst ys))) ∨ (∃ t : List Nat, xs = [vstr t] ∧ t.length ≤ sizeLine ∧ ∀ l, H l = none → Q (.ref l) (upd H l (.lst (t.map fun c => vstr [c]))))) := by
  intro pins s σ H xs us Q I r h
  rcases h with h | h
  · exact call_list_of pins s σ H xs us Q I r h
  · exact call_list_txt hc pins s σ H xs us Q I r h
section
variable {C : Cg} {X : Cx} {P : Pm} {w w1 w2 : Wd} {U : WX} {σ : L2.St} {env : Env} {e a b o : Expr} {es : List Expr} {p pos apos cpos : Pos} {fa fb fe : CE} {ga : CA} {K : PySem.W.Frag}
/-- list(x) -/
theorem sn_list {x : Str} {p : Pos} (hc : X.calm = true) (ha : SE C X a fa) (hm : X.mg "list" = none) (hg : Gl X "list" := by rfl) (he : starEach (a :: []) X.env = (false, eval a X.env) :: starEach [] X.env := by rfl) : SN C X (.Call (.Name "list" p) [a] [] pos) (lList fa) := by
  intro P U w env σ Q tk R E h
  refine ex_of (pe_callTy (call_list_any hc) hg hm (by decide +kernel) (pa_cons pe_ex pa_nil he) (by decide) (by decide) he rfl) ?_
  refine ha.goL tk R E h fun w1 x v st ra E1 h1 => ?_
  cases e1 : view x w1.s with
  | none => rw [e1] at h1; exact h1.elim
  | some d =>
    rw [e1] at h1
    have rv := view_rv st.rel ra e1
    cases d with
    | lst xs =>
      obtain ⟨p, vs, rfl, g1, g2⟩ := rv_lst rv
      exact .inl ⟨p, vs, rfl, .inl (SqL.of g1), outL_ok st.rel h1 g2⟩
    | tup xs =>
      obtain ⟨p, vs, rfl, g1, g2⟩ := rv_tup rv
      exact .inl ⟨p, vs, rfl, .inr g1.sq, outL_ok st.rel h1 g2⟩
    | str t =>
      have r' : RD X.K C w1.Zf w1.H (.str t) v := rv
      simp only [RD] at r'
      exact .inr ⟨t, by rw [r'.1], by rw [sizeLine_eq]; exact r'.2, outL_ok st.rel h1 (rds_chars t)⟩
    | _ => exact h1.elim

theorem sn_listS (hc : X.calm = true) (ha : SE C X a fa) (hm : X.mg "list" = none) (hg : Gl X "list" := by rfl) (he : starEach (a :: []) X.env = (false, eval a X.env) :: starEach [] X.env := by rfl) : SN C X (.Call (.Name "list" p) [a] [] pos) (lListS fa) := by
  intro P U w env σ Q tk R E h
  refine ex_of (pe_callTy (call_list_txt hc) hg hm (by decide +kernel) (pa_cons pe_ex pa_nil he) (by decide) (by decide) he rfl) ?_
  refine ha.goL tk R E h fun w1 x v st ra E1 h1 => ?_
  cases x with
  | ref _ => exact h1.elim
  | d x =>
    cases x with
    | str t =>
      have r' : RD X.K C w1.Zf w1.H (.str t) v := ra
      simp only [RD] at r'
      exact ⟨t, by rw [r'.1], by rw [sizeLine_eq]; exact r'.2, outL_ok st.rel h1 (rds_chars t)⟩
    | _ => exact h1.elim
/-! ### list methods -/
theorem ref_tyl (R : Rel X.K C P w) {i : Nat} {xs : List D} {v : V} (r : RW X.K C w (.ref i) v) (q : w.s.get i = some (.lst xs)) : tyV X.K "list" v w.H := by
  obtain ⟨vs, q1, q2⟩ := R.obj i _ q
  rw [r.2]
  exact .inl ⟨rfl, vs, SqL.of q1⟩
theorem se_append (ha : SE C X o fa) (hb : SE C X e fb) (hbase : attributeBase o "append" X.env (eval o X.env) = eval o X.env := by rfl)
    (hfew : ((backTo cpos (starEach (e :: []) X.env)).all (fun x => !x.1) && (backToKw cpos (keywordEach [] X.env)).all (fun x => x.1.isSome) && decide ((e :: ([] : List Expr)).length + ([] : List Keyword).length + (if ([] : List Keyword).isEmpty then 0 else 1) < 30)) = true := by rfl)
    (hline : (apos.endLine == cpos.line) = true := by rfl) (hs : starEach (e :: []) X.env = (false, eval e X.env) :: starEach [] X.env := by rfl) (hplain : (backTo cpos (starEach [] X.env)).any (·.1) = false := by rfl) :
    SE C X (.Call (.Attribute o "append" apos) [e] [] cpos) (cAppend fa fb) := by
  intro P U w env σ Q tk R E h
  refine ex_of (pe_bm PySem.F.plainAttrs_list PySem.F.slot_list_append PySem.F.type_list_append mt_append pe_ex (pa_cons pe_ex pa_nil hs) hbase hfew hline hs hplain) ?_
  refine ha.go tk R E h fun w1 x v st ra E1 h1 => ?_
  cases x with
  | d _ => exact h1.elim
  | ref i =>
    dsimp only at h1
    cases q : w1.s.get i with
    | none => rw [q] at h1; exact h1.elim
    | some ob =>
      rw [q] at h1
      cases ob with
      | lst xs0 =>
        refine ⟨ref_tyl st.rel ra q, hb.go tk st.rel E1 h1 fun w2 y u st2 rb E2 h2 => ?_⟩
        cases y with
        | ref _ => exact h2.elim
        | d y =>
          cases q2 : w2.s.get i with
          | none => rw [q2] at h2; exact h2.elim
          | some ob2 =>
            rw [q2] at h2
            cases ob2 with
            | lst xs =>
              dsimp only at h2
              split at h2
              · rename_i hl
                obtain ⟨vs, k1, k2⟩ := st2.rel.obj i _ q2
                have ra2 := RW.mono st2 ra
                refine ⟨(w2.m i).1, vs, u, ra2.2, rfl, k1, by rw [← k2.length, ← lim_eq]; exact hl, ?_⟩
                have sp := step_lset (K := X.K) st2.rel q2 (RDs.append k2 (.cons rb .nil))
                exact h2 _ rfl sp .non rw_non
              · exact h2.elim
            | _ => exact h2.elim
      | _ => exact h1.elim
theorem se_extend (ha : SE C X o fa) (hb : SE C X e fb) (hbase : attributeBase o "extend" X.env (eval o X.env) = eval o X.env := by rfl)
    (hfew : ((backTo cpos (starEach (e :: []) X.env)).all (fun x => !x.1) && (backToKw cpos (keywordEach [] X.env)).all (fun x => x.1.isSome) && decide ((e :: ([] : List Expr)).length + ([] : List Keyword).length + (if ([] : List Keyword).isEmpty then 0 else 1) < 30)) = true := by rfl)
    (hline : (apos.endLine == cpos.line) = true := by rfl) (hs : starEach (e :: []) X.env = (false, eval e X.env) :: starEach [] X.env := by rfl) (hplain : (backTo cpos (starEach [] X.env)).any (·.1) = false := by rfl) :
    SE C X (.Call (.Attribute o "extend" apos) [e] [] cpos) (cExtend fa fb) := by
  intro P U w env σ Q tk R E h
  refine ex_of (pe_bm PySem.F.plainAttrs_list PySem.F.slot_list_extend PySem.F.type_list_extend mt_extendA pe_ex (pa_cons pe_ex pa_nil hs) hbase hfew hline hs hplain) ?_
  refine ha.go tk R E h fun w1 x v st ra E1 h1 => ?_
  cases x with
  | d _ => exact h1.elim
  | ref i =>
    dsimp only at h1
    cases q : w1.s.get i with
    | none => rw [q] at h1; exact h1.elim
    | some ob =>
      rw [q] at h1
      cases ob with
      | lst xs0 =>
        refine ⟨ref_tyl st.rel ra q, hb.go tk st.rel E1 h1 fun w2 y u st2 rb E2 h2 => ?_⟩
        cases ev : view y w2.s with
        | none => rw [ev] at h2; exact h2.elim
        | some y' =>
          rw [ev] at h2
          cases q2 : w2.s.get i with
          | none => rw [q2] at h2; exact h2.elim
          | some ob2 =>
            rw [q2] at h2
            cases ob2 with
            | lst xs =>
              dsimp only at h2
              cases ei : itemsOf y' with
              | none => rw [ei] at h2; exact h2.elim
              | some ys =>
                rw [ei] at h2
                dsimp only at h2
                split at h2
                · rename_i hl
                  obtain ⟨vs, k1, k2⟩ := st2.rel.obj i _ q2
                  obtain ⟨bb, us, rfl, k3, k4⟩ := items_v (view_rv st2.rel rb ev) ei
                  have ra2 := RW.mono st2 ra
                  refine ⟨(w2.m i).1, bb, vs, us, ra2.2, rfl, k1, k3.symm, by rw [← k2.length, ← k4.length, ← lim_eq]; exact hl, ?_⟩
                  have sp := step_lset (K := X.K) st2.rel q2 (RDs.append k2 k4)
                  exact h2 _ rfl sp .non rw_non
                · exact h2.elim
            | _ => exact h2.elim
      | _ => exact h1.elim
/-! ### text methods -/
def mmax (X : Cx) (id : String) : V → List V → Hp → VK → Prop := fun x vs H Q => ∀ (pins : List (Addr × Obj)) (s : Shared) (σ : L2.St) (v : Value) (us : List Value), Inv X pins σ H s → RelV x v → Vals vs us → wpAny (model X.prog X.w) X.A (call (.builtin id) (v :: us)) (EP X pins σ Q) X.xe s
theorem mmax_ok {id : String} : MtR X id (mmax X id) := fun pins s σ H x xs v us Q I rx rv h => h pins s σ v us I rx rv
theorem mmax_of {id : String} {r : V → List V → Hp → VK → Prop} (o : MtR X id r) {x : V} {vs : List V} {H : Hp} {Q : VK} (h : r x vs H Q) : mmax X id x vs H Q := fun pins s σ v us I rx rv => o pins s σ H x vs v us Q I rx rv h
def SmOk (C : Cg) (X : Cx) (id : String) (k : SMt) : Prop := ∀ (P : Pm) (w : Wd) (t : List Nat) (xs : List D) (z : D) (vs : List V) (Q : VK), Rel X.K C P w → t.length ≤ 16777216 → Paired (RV X.K C w) xs vs → k t xs = some z →
  (∀ w' r, w'.s = w.s → Step X.K C P w w' → RD X.K C w'.Zf w'.H z r → Q r w'.H) → mmax X id (vstr t) vs w.H Q
theorem se_strM {name : Str} {id : String} {k : SMt} (slot : Slot "str" name id) (hty : typeOf (.builtin id) = pure (.type "method_descriptor")) (hk : SmOk C X id k) (ha : SE C X o fa) (hb : SA C X (e :: es) ga) (hbase : attributeBase o name X.env (eval o X.env) = eval o X.env := by rfl)
    (hfew : ((backTo cpos (starEach (e :: es) X.env)).all (fun x => !x.1) && (backToKw cpos (keywordEach [] X.env)).all (fun x => x.1.isSome) && decide ((e :: es).length + ([] : List Keyword).length + (if ([] : List Keyword).isEmpty then 0 else 1) < 30)) = true := by rfl)
    (hline : (apos.endLine == cpos.line) = true := by rfl) (hs : starEach (e :: es) X.env = (false, eval e X.env) :: starEach es X.env := by rfl) (hplain : (backTo cpos (starEach es X.env)).any (·.1) = false := by rfl) :
    SE C X (.Call (.Attribute o name apos) (e :: es) [] cpos) (cStrM k fa ga) := by
  intro P U w env σ Q tk R E h
  refine ex_of (pe_bm PySem.F.plainAttrs_str slot hty mmax_ok pe_ex pa_ax hbase hfew hline hs hplain) ?_
  refine ha.go tk R E h fun w1 x v st ra E1 h1 => ?_
  cases x with
  | ref _ => exact h1.elim
  | d x =>
    cases x with
    | str t =>
      have r' : RD X.K C w1.Zf w1.H (.str t) v := ra
      simp only [RD] at r'
      obtain ⟨rfl, hl⟩ := r'
      refine ⟨rfl, hb.go tk st.rel E1 h1 fun w2 ws vs st2 rs E2 h2 => ?_⟩
      cases e1 : viewAll ws w2.s with
      | none => rw [e1] at h2; exact h2.elim
      | some xs =>
        rw [e1] at h2
        dsimp only at h2
        cases e2 : k t xs with
        | none => rw [e2] at h2; exact h2.elim
        | some z =>
          rw [e2] at h2
          exact hk P w2 t xs z vs Q st2.rel hl (viewAll_v st2.rel rs e1) e2 fun w' r es st' hr => h2 w' es st' r hr
    | _ => exact h1.elim
theorem join_N (t : List Nat) : ∀ ss : List (List Nat), Txt.join ⟨t.toArray⟩ (ss.map fun s => (⟨s.toArray⟩ : Str)) = ⟨(joinN t ss).toArray⟩ := fun ss => by
  rw [TL.join_eq]
  induction ss with
  | nil => rfl
  | cons x r ih =>
    cases r with
    | nil => rfl
    | cons y r =>
      show (⟨x.toArray⟩ : Str) ++ ⟨t.toArray⟩ ++ Str.join ⟨t.toArray⟩ ((y :: r).map fun s => (⟨s.toArray⟩ : Str)) = _
      rw [ih, str_app, str_app]
      rfl
theorem strs_v {w : Wd} : ∀ {ys : List D} {vs : List V} {ss : List (List Nat)}, strsOf ys = some ss → RDs K C w.Zf w.H ys vs → vs = (ss.map fun s => (⟨s.toArray⟩ : Str)).map V.str
  | [], vs, ss, e, h => by
    simp only [RDs] at h
    cases e
    rw [h] <;> rfl
  | y :: ys, vs, ss, e, h => by
    simp only [RDs] at h
    obtain ⟨v, r, rfl, h1, h2⟩ := h
    cases y with
    | str x =>
      unfold strsOf at e
      cases q : strsOf ys with
      | none => rw [q] at e; cases e
      | some xs =>
        rw [q] at e
        cases e
        simp only [RD] at h1
        rw [h1.1, strs_v q h2] <;> rfl
    | _ => cases e
theorem sumLen_eq : ∀ ss : List (List Nat), (((ss.map fun s => (⟨s.toArray⟩ : Str)).map (·.length)).sum) = sumLen ss
  | [] => rfl
  | x :: r => by
    rw [List.map_cons, List.map_cons, List.sum_cons, sumLen, sumLen_eq r, str_len]
theorem joinN_len (t : List Nat) : ∀ ss : List (List Nat), (joinN t ss).length ≤ sumLen ss + ss.length * t.length
  | [] => Nat.zero_le _
  | [x] => by
    simp only [joinN, sumLen, List.length_cons, List.length_nil]
    omega
  | x :: y :: r => by
    have ih := joinN_len t (y :: r)
    have e : (x :: y :: r).length * t.length = (y :: r).length * t.length + t.length := by
      rw [show (x :: y :: r).length = (y :: r).length + 1 from rfl, Nat.add_mul, Nat.one_mul]
    rw [e]
    simp only [joinN, List.length_append, sumLen] at ih ⊢
    omega
theorem sm_join : SmOk C X "str.join" kJoin := by
  intro P w t xs z vs Q R hl h e q
  unfold kJoin at e
  split at e
  · rename_i x
    cases e1 : itemsOf x with
    | none => rw [e1] at e; cases e
    | some ys =>
      rw [e1] at e
      dsimp only at e
      cases e2 : strsOf ys with
      | none => rw [e2] at e; cases e
      | some ss =>
        rw [e2] at e
        dsimp only at e
        split at e
        · rename_i hle
          cases e
          obtain ⟨v, rfl, r⟩ := paired1 h
          obtain ⟨p, us, rfl, g1, g2⟩ := items_v r e1
          obtain rfl := strs_v e2 g2
          refine mmax_of mt_join ⟨_, p, _, rfl, rfl, g1.symm, ?_, ?_⟩
          · rw [sumLen_eq, List.length_map, str_len]
            exact hle
          · rw [join_N]
            exact op_end R (rd_str (Nat.le_trans (joinN_len _ _) hle)) q
        · cases e
  · cases e
theorem pos_spec (c : Nat) : ∀ {t : List Nat} {i : Nat}, posOf c t = some i → t[i]? = some c ∧ ∀ k, k < i → t[k]? ≠ some c
  | [], _, e => by cases e
  | x :: r, i, e => by
    unfold posOf at e
    split at e
    · rename_i hx
      cases e
      exact ⟨by simp [hx], fun k hk => absurd hk (Nat.not_lt_zero k)⟩
    · rename_i hx
      cases q : posOf c r with
      | none => rw [q] at e; cases e
      | some j =>
        rw [q] at e
        cases e
        obtain ⟨h1, h2⟩ := pos_spec c q
        refine ⟨by simpa using h1, fun k hk => ?_⟩
        cases k with
        | zero => simpa using hx
        | succ k =>
          have hk : k + 1 < j + 1 := hk
          simpa using h2 k (by omega)
theorem subAt_one (t : List Nat) (c i : Nat) : Builtin.Str.subAt ⟨t.toArray⟩ ⟨#[c]⟩ i = decide (t[i]? = some c) := by
  rw [StrLaws.subAt_eq]
  show (((t.toArray.toList.drop i).take 1) == [c]) = _
  rw [List.toList_toArray]
  cases e : t[i]? with
  | none =>
    rw [List.drop_eq_nil_of_le (List.getElem?_eq_none_iff.mp e)]
    rfl
  | some x =>
    have hl := (List.getElem?_eq_some_iff.mp e).1
    rw [List.drop_eq_getElem_cons hl]
    have hx : t[i] = x := Option.some.inj ((List.getElem?_eq_getElem hl).symm.trans e)
    rw [hx]
    simp
    rw [Bool.eq_iff_iff]
    simp
theorem at_one (t : List Nat) (c i : Nat) : StrLaws.At ⟨t.toArray⟩ ⟨#[c]⟩ (⟨t.toArray⟩ : Str).length i ↔ t[i]? = some c := by
  unfold StrLaws.At
  rw [subAt_one, str_len]
  constructor
  · intro h
    simpa using h.2
  · intro h
    have hl := (List.getElem?_eq_some_iff.mp h).1
    exact ⟨by show i + 1 ≤ t.length; omega, by simpa using h⟩
theorem sm_index : SmOk C X "str.index" kIndex := by
  intro P w t xs z vs Q R hl h e q
  unfold kIndex at e
  split at e
  · rename_i c
    cases ep : posOf c t with
    | none => rw [ep] at e; cases e
    | some i =>
      rw [ep] at e
      cases e
      obtain ⟨v, rfl, r⟩ := paired1 h
      obtain ⟨rfl, _⟩ := rv_str r
      obtain ⟨p1, p2⟩ := pos_spec c ep
      have hh := StrLaws.occ_head ⟨t.toArray⟩ ⟨#[c]⟩ 1 (Nat.le_refl _)
      rcases hh with ⟨_, no⟩ | ⟨j, r', e2, y1, y2⟩
      · exact absurd ((at_one t c i).mpr p1) (no i)
      · have y1 := (at_one t c j).mp y1
        have : j = i := by
          rcases Nat.lt_trichotomy j i with z | z | z
          · exact absurd y1 (p2 j z)
          · exact z
          · exact absurd ((at_one t c i).mpr p1) (y2 i z)
        subst this
        exact mmax_of mt_sindex ⟨_, _, j, r', rfl, rfl, e2, op_end R rd_int q⟩
  · cases e
end
end Z
end

section
set_option Elab.async false
set_option linter.all false
set_option maxRecDepth 100000
set_option maxHeartbeats 4000000
/-! x[::-1]. -/
namespace Z
open PySem PySem.Spec PyProof.Rows L2
section
variable {prog : Program} {w : World} {A : Around} {E : Value → Shared → Prop} {s : Shared}
theorem rev_pick (xs : Array Value) : ((List.range xs.size).filterMap fun (m : Nat) => xs[((xs.size : Int) - 1 + (m : Int) * (-1)).toNat]?).toArray = xs.toList.reverse.toArray := by
  congr 1
  refine List.ext_getElem? fun i => ?_
  have key : ∀ n, n ≤ xs.size → (List.range n).filterMap (fun (m : Nat) => xs[((xs.size : Int) - 1 + (m : Int) * (-1)).toNat]?) = (List.range n).map fun m => xs.toList.reverse[m]?.getD .none := by
    intro n
    induction n with
    | zero => intro _; rfl
    | succ n ih =>
      intro hn
      rw [List.range_succ, List.filterMap_append, List.map_append, ih (by omega)]
      congr 1
      have e1 : ((xs.size : Int) - 1 + (n : Int) * (-1)).toNat = xs.size - 1 - n := by omega
      have e2 : xs.toList.reverse[n]? = xs[xs.size - 1 - n]? := by
        rw [List.getElem?_reverse (by rw [Array.length_toList]; omega)]
        simp
      have hl : xs.size - 1 - n < xs.size := by omega
      simp only [List.filterMap_cons, List.filterMap_nil, List.map_cons, List.map_nil, e1, e2]
      rw [Array.getElem?_eq_getElem hl]
      rfl
  rw [key _ (Nat.le_refl _), List.getElem?_map]
  by_cases hi : i < xs.size
  · rw [List.getElem?_range hi]
    have : i < xs.toList.reverse.length := by simpa using hi
    simp [List.getElem?_eq_getElem this]
  · rw [List.getElem?_eq_none (by simpa using hi), List.getElem?_eq_none (by simpa using hi)]
    rfl
theorem getItem_tuple_rev {t sl : Addr} {items : Array Value} {vs : Value} {Q : Value → Shared → Prop} (ht : IsTup s.heap t items) (hs : s.heap.IsSliceOf sl .none .none vs) (ps : IsPart vs (some (-1)))
    (h : Q (.ref s.heap.objs.size) { s with heap := s.heap.push { cls := .type "tuple", data := .seq items.toList.reverse.toArray } }) (hsz : items.size ≤ sizeLine) : wpAny (model prog w) A (getItem (.ref t) (.ref sl)) Q E s := by
  have htake : sizeOk (.seq items.toList.reverse.toArray) := by
    show items.toList.reverse.toArray.size ≤ sizeLine
    rw [List.size_toArray, List.length_reverse, Array.length_toList]
    exact hsz
  obtain ⟨os, hos, hcs, hds⟩ := id hs
  have hTs : s.TypeIs (.ref sl) "slice" := ⟨os, hos, hcs⟩
  unfold getItem
  try with_reducible refine wpAny_holding ?_
  first | refine wpAny_bind (wpAny_pure ?_) | skip
  refine wpAny_bind (wpAny_sequenceKey ht.typeIs (by decide) ?_)
  refine wpAny_bind (wpAny_callSpecial?_slot (name := Str.ofString "__getitem__") ht.typeIs PyProof.Rows.slot_tuple_getitem
    (wpAny_call_entry PyProof.Rows.slot_tuple_getitem ht.typeIs entry_tuple_getitem ?_ (args_tuple_getitem _ _)))
  show wpAny _ _ (Builtin.Tuple.tupleItemsOf (.ref t) >>= _) _ _ s
  refine wpAny_bind (tupleItemsOf_ ht ?_)
  refine wpAny_bind (wpAny_typeOf hTs ?_)
  rw [if_pos (by decide)]
  refine wpAny_bind ?_
  unfold Builtin.Slice.sliceApplied Builtin.Slice.sliceFields
  refine wpAny_bind (wpAny_bind (wpAny_field hos hds (x := .none) rfl (wpAny_bind (wpAny_field hos hds (x := .none) rfl (wpAny_bind (wpAny_field hos hds (x := vs) rfl (wpAny_pure ?_)))))))
  refine wpAny_bind (HT.slicePart_ ps ?_)
  show wpAny _ _ (if ((-1 : Int) == 0) = true then _ else _) _ _ s
  rw [if_neg (by decide)]
  refine wpAny_bind (HT.slicePart_ .none (wpAny_bind (HT.slicePart_ .none (wpAny_bind (wpAny_pure ?_)))))
  have ea : Builtin.Slice.sliceAdjust none none (-1) (items.size : Int) = ((items.size : Int) - 1, -1) := by
    unfold Builtin.Slice.sliceAdjust
    rfl
  show wpAny _ _ (match Builtin.Slice.sliceAdjust none none (-1) (items.size : Int) with | (lo, hi) => pure (lo, (-1 : Int), Builtin.Slice.slicePlaces lo hi (-1))) _ _ s
  rw [ea]
  have ep : Builtin.Slice.slicePlaces ((items.size : Int) - 1) (-1) (-1) = items.size := by
    unfold Builtin.Slice.slicePlaces
    simp
    omega
  show wpAny _ _ (pure ((items.size : Int) - 1, (-1 : Int), Builtin.Slice.slicePlaces ((items.size : Int) - 1) (-1) (-1))) _ _ s
  rw [ep]
  refine wpAny_pure ?_
  have hno : ¬ ((((items.size : Int) - 1) == 0 && (-1 : Int) == 1 && items.size == items.size) = true) := by
    rw [show ((-1 : Int) == 1) = false by decide, Bool.and_false, Bool.false_and]
    exact Bool.false_ne_true
  show wpAny _ _ (if (((items.size : Int) - 1) == 0 && (-1 : Int) == 1 && items.size == items.size) = true then _ else _) _ _ s
  rw [if_neg hno, rev_pick]
  first
    | exact wpAny_bind (m := Builtin.Tuple.tupleExact _) (wpAny_newObj_type (wpAny_pure ⟨_, rfl, wpAny_pure h⟩) htake)
    | exact wpAny_bind (m := Builtin.Tuple.tupleExact _) (wpAny_newObj_type (wpAny_bind (wpAny_pure (wpAny_pure ⟨_, rfl, wpAny_pure h⟩))) htake)
    | exact wpAny_bind (wpAny_bind (m := Builtin.Tuple.tupleExact _) (wpAny_newObj_type (wpAny_pure (wpAny_pure ⟨_, rfl, wpAny_pure h⟩)) htake))
    | exact wpAny_bind (wpAny_bind (m := Builtin.Tuple.tupleExact _) (wpAny_newObj_type (wpAny_pure ⟨_, rfl, wpAny_pure h⟩) htake))
end
section
variable {X : Cx} {e : Expr} {te : TE} {k : Nat} {p1 p2 p3 pos : Pos}
theorem pe_revT (he : PE X e te) : PE X (.Subscript e (.Slice none none (some (.UnaryOp .USub (.Constant (.int 1) k p1) p2)) p3) pos) (fun σ H Q => te σ H fun x H1 => ∃ a xs, x = .ref a ∧ SqT X.K H1 a xs ∧ ∀ p, H1 p = none → Q (.ref p) (upd H1 p (.tup xs.reverse))) := by
  refine ⟨fun pins s σ H Q I h => ?_⟩
  refine Subscript_ (thn (he.run pins s σ H _ I h) fun v s1 ⟨x, H1, I1, r1, q1⟩ => ?_)
  obtain ⟨a, xs, ex, hx, q⟩ := q1
  subst ex
  cases r1
  have hst : PO X (some (.UnaryOp .USub (.Constant (.int 1) k p1) p2)) (tPart (tUn (rU fun i => .int (-i)) (tC (.int 1)))) := po_some (pe_un un_neg pe_int)
  refine wpAny_Slice (thn (po_none.run pins s1 σ H1 (fun o H2 => o = none ∧ H2 = H1) I1 ⟨rfl, rfl⟩) fun vl s2 ⟨l, H2, I2, pl, el, e2⟩ => ?_)
  subst el e2
  refine thn (po_none.run pins s2 σ H2 (fun o H3 => o = none ∧ H3 = H2) I2 ⟨rfl, rfl⟩) fun vu s3 ⟨u, H3, I3, pu, eu, e3⟩ => ?_
  subst eu e3
  refine thn (hst.run pins s3 σ H3 (fun o H4 => o = some (-1) ∧ H4 = H3) I3 ⟨1, rfl, -1, rfl, rfl, rfl⟩) fun vs s4 ⟨o, H4, I4, ps, eo, e4⟩ => ?_
  subst eo e4
  cases pl
  cases pu
  have I5 : Inv X pins σ H4 { s4 with heap := s4.heap.push { cls := .type "slice", data := .fields #[.none, .none, vs] } } := I4.kept (t' := s4.toks) fun b ob q => Heap.get?_push_of_some _ q
  obtain ⟨its, r, ht, hz⟩ := I5.tuple hx
  have hlen := r.length
  show wpAny (model X.prog X.w) X.A (subscriptTail e (.Slice none none (some (.UnaryOp .USub (.Constant (.int 1) k p1) p2)) p3) (.ref a) (.ref s4.heap.objs.size)) (EP X pins σ Q) X.xe { s4 with heap := s4.heap.push { cls := .type "slice", data := .fields #[.none, .none, vs] } }
  refine tail_any (ops := [.ref a, .ref s4.heap.objs.size]) ht.typeIs (PyProof.Rows.slot_tuple_getitem.lookup) ?_ (by with_unfolding_all rfl)
  refine getItem_tuple_rev ht (Heap.IsSliceOf.new _ .none .none vs) ps ?_ (by rw [List.size_toArray]; omega)
  refine ⟨.ref _, _, I5.laid (t' := s4.toks) (o := .tup xs.reverse) (fun b ob q => Heap.get?_push_of_some _ q) (Nat.le_refl _) ?_, rfl, q _ (I5.hok.fresh (Nat.le_refl _))⟩
  exact ⟨by rw [List.length_reverse]; exact hz, _, r.reverse, ⟨_, Heap.get?_push_size _ rfl, rfl, _, rfl⟩⟩
variable {C : Cg} {P : Pm} {U : WX} {fa : CE}
theorem se_rev (ha : SE C X e fa) : SE C X (.Subscript e (.Slice none none (some (.UnaryOp .USub (.Constant (.int 1) k p1) p2)) p3) pos) (cRev fa) := by
  intro P U w env σ Q tk R E h
  cases er : fa env w.s with
  | bad => unfold cRev at h; rw [er] at h; exact h.elim
  | exc x s =>
    unfold cRev at h
    rw [er] at h
    exact ex_of (pe_revL pe_ex) (ha P U w env σ _ tk R E (by rw [er]; exact h))
  | ok x s =>
    cases ev : view x s with
    | none =>
      unfold cRev at h
      rw [er] at h
      simp only [RS.bind] at h
      rw [ev] at h
      exact h.elim
    | some d =>
      cases d with
      | tup xs =>
        refine ex_of (pe_revT pe_ex) (ha.goI tk R E h fun w1 y v st ra E1 h1 ex => ?_)
        rw [er] at ex
        cases ex
        rw [ev] at h1
        obtain ⟨p, vs, rfl, g1, g2⟩ := rv_tup (view_rv st.rel ra ev)
        exact ⟨p, vs, rfl, g1.sq, fun p' hp => h1 { w1 with H := upd w1.H p' (.tup vs.reverse) } rfl (step_new st.rel hp _) (.ref p') (rd_tup st.rel hp g2.reverse)⟩
      | lst xs =>
        refine ex_of (pe_revL pe_ex) (ha.goI tk R E h fun w1 y v st ra E1 h1 ex => ?_)
        rw [er] at ex
        cases ex
        rw [ev] at h1
        obtain ⟨p, vs, rfl, g1, g2⟩ := rv_lst (view_rv st.rel ra ev)
        exact ⟨p, vs, rfl, SqL.of g1, fun p' hp => h1 { w1 with H := upd w1.H p' (.lst vs.reverse) } rfl (step_new st.rel hp _) (.ref p') (rd_lst st.rel hp g2.reverse)⟩
      | _ =>
        unfold cRev at h
        rw [er] at h
        simp only [RS.bind] at h
        rw [ev] at h
        exact h.elim
theorem sn_rev (ha : SE C X e fa) : SN C X (.Subscript e (.Slice none none (some (.UnaryOp .USub (.Constant (.int 1) k p1) p2)) p3) pos) (lRev fa) := by
  intro P U w env σ Q tk R E h
  refine ex_of (pe_revL pe_ex) ?_
  refine ha.goL tk R E h fun w1 x v st ra E1 h1 => ?_
  cases e1 : view x w1.s with
  | none => rw [e1] at h1; exact h1.elim
  | some d =>
    rw [e1] at h1
    cases d with
    | lst xs =>
      obtain ⟨p, vs, rfl, g1, g2⟩ := rv_lst (view_rv st.rel ra e1)
      exact ⟨p, vs, rfl, SqL.of g1, outL_ok st.rel h1 g2.reverse⟩
    | _ => exact h1.elim
end
end Z
end

section
set_option Elab.async false
set_option linter.all false
set_option maxRecDepth 100000
set_option maxHeartbeats 4000000
/-! isinstance by classes. -/
namespace Z
open PySem PySem.Spec PyProof.Rows L2
section
variable {K : PySem.W.Frag} {C : Cg}
theorem isf_int (h : ∀ c, C.kn c = true → PySem.W.kitOne K (.ref (C.cl c)) (.type "int") = some false) : IsF K C .int (.type "int") where
  non := fun b e => by cases e; with_unfolding_all rfl
  bl := fun x b e => by cases e; with_unfolding_all rfl
  int := fun x b e => by cases e; with_unfolding_all rfl
  str := fun x b e => by cases e; with_unfolding_all rfl
  tup := fun x b e => by cases e; with_unfolding_all rfl
  lst := fun x b e => by cases e; with_unfolding_all rfl
  dic := fun x y b e => by cases e; with_unfolding_all rfl
  obj := fun c x b hk e => by cases e; exact h c hk
end
theorem bt_len : bootBuiltins "len" = some (.builtin "len") := by decide +kernel
theorem bt_abs : bootBuiltins "abs" = some (.builtin "abs") := by decide +kernel
theorem bt_max : bootBuiltins "max" = some (.builtin "max") := by decide +kernel
theorem bt_min : bootBuiltins "min" = some (.builtin "min") := by decide +kernel
theorem bt_divmod : bootBuiltins "divmod" = some (.builtin "divmod") := by decide +kernel
theorem bt_all : bootBuiltins "all" = some (.builtin "all") := by decide +kernel
theorem bt_any : bootBuiltins "any" = some (.builtin "any") := by decide +kernel
theorem bt_sum : bootBuiltins "sum" = some (.builtin "sum") := by decide +kernel
theorem bt_isinstance : bootBuiltins "isinstance" = some (.builtin "isinstance") := by decide +kernel
theorem bt_sorted : bootBuiltins "sorted" = some (.builtin "sorted") := by decide +kernel
theorem bt_repr : bootBuiltins "repr" = some (.builtin "repr") := by decide +kernel
theorem bt_int : bootBuiltins "int" = some (.type "int") := by decide +kernel
theorem bt_tuple : bootBuiltins "tuple" = some (.type "tuple") := by decide +kernel
theorem bt_list : bootBuiltins "list" = some (.type "list") := by decide +kernel
theorem bt_str : bootBuiltins "str" = some (.type "str") := by decide +kernel
theorem bt_bool : bootBuiltins "bool" = some (.type "bool") := by decide +kernel
theorem bt_dict : bootBuiltins "dict" = some (.type "dict") := by decide +kernel
theorem bt_range : bootBuiltins "range" = some (.type "range") := by decide +kernel
theorem bt_enumerate : bootBuiltins "enumerate" = some (.type "enumerate") := by decide +kernel
theorem bt_zip : bootBuiltins "zip" = some (.type "zip") := by decide +kernel
end Z
end

section
set_option Elab.async false
set_option linter.all false
set_option maxRecDepth 100000
set_option maxHeartbeats 4000000
/-! Names compared by their codes; the tables of a program; what stands still of a context. -/
namespace Z
open PySem PySem.Spec PyProof.Rows L2
def neq : List Nat → List Nat → Bool
  | [], [] => true
  | a :: as, b :: bs => Nat.beq a b && neq as bs
  | _, _ => false
theorem neq_iff : ∀ {a b : List Nat}, neq a b = true ↔ a = b
  | [], [] => by simp [neq]
  | [], _ :: _ => by simp [neq]
  | _ :: _, [] => by simp [neq]
  | a :: as, b :: bs => by
    simp only [neq, Bool.and_eq_true, Nat.beq_eq, List.cons.injEq, neq_iff (a := as) (b := bs)]
def seq (a b : Str) : Bool := neq a.cps.toList b.cps.toList
theorem seq_iff {a b : Str} : seq a b = true ↔ a = b := by
  unfold seq
  rw [neq_iff]
  constructor
  · intro h
    cases a with
    | mk x =>
      cases b with
      | mk y =>
        have : x = y := by
          cases x; cases y
          exact congrArg _ h
        rw [this]
  · intro h
    rw [h]
theorem seq_ne {a b : Str} (h : seq a b = false) : (a == b) = false := by
  cases q : a == b with
  | false => rfl
  | true =>
    rw [eq_of_beq q] at h
    rw [seq_iff.mpr rfl] at h
    cases h
theorem seq_ne' {a b : Str} (h : seq a b = false) : a ≠ b := fun e => by
  rw [e, seq_iff.mpr rfl] at h
  cases h
def slook {α : Type} : List (Str × α) → Str → Option α
  | [], _ => none
  | (k, v) :: r, x => if seq x k = true then some v else slook r x
theorem slook_eq {α : Type} : ∀ (l : List (Str × α)) (x : Str), l.lookup x = slook l x
  | [], _ => rfl
  | (k, v) :: r, x => by
    unfold slook
    rw [List.lookup_cons]
    by_cases h : seq x k = true
    · rw [if_pos h]
      have : (x == k) = true := by rw [seq_iff.mp h]; exact beq_self_eq_true _
      rw [this]
    · rw [if_neg h]
      have : (x == k) = false := seq_ne (by simpa using h)
      rw [this]
      exact slook_eq r x
theorem slook_mem {α : Type} : ∀ {l : List (Str × α)} {x : Str} {a : α}, slook l x = some a → (x, a) ∈ l
  | [], _, _, h => by cases h
  | (k, v) :: r, x, a, h => by
    unfold slook at h
    by_cases q : seq x k = true
    · rw [if_pos q] at h
      cases h
      rw [seq_iff.mp q]
      exact List.mem_cons_self
    · rw [if_neg q] at h
      exact List.mem_cons_of_mem _ (slook_mem h)
def sidx : List Str → Str → Option Nat
  | [], _ => none
  | k :: r, x => if seq x k = true then some 0 else match sidx r x with
    | some i => some (i + 1)
    | none => none
theorem sidx_get : ∀ {N : List Str} {x : Str} {i : Nat}, sidx N x = some i → N[i]? = some x
  | [], _, _, h => by cases h
  | k :: r, x, i, h => by
    unfold sidx at h
    by_cases q : seq x k = true
    · rw [if_pos q] at h
      cases h
      rw [seq_iff.mp q]
      rfl
    · rw [if_neg q] at h
      cases e : sidx r x with
      | none => rw [e] at h; cases h
      | some j =>
        rw [e] at h
        cases h
        simpa using sidx_get e
def smem (x : Str) : List Str → Bool
  | [] => false
  | k :: r => seq x k || smem x r
theorem smem_mem : ∀ {x : Str} {l : List Str}, smem x l = true → x ∈ l
  | _, [], h => by cases h
  | x, k :: r, h => by
    unfold smem at h
    rw [Bool.or_eq_true] at h
    rcases h with h | h
    · rw [seq_iff.mp h]; exact List.mem_cons_self
    · exact List.mem_cons_of_mem _ (smem_mem h)
def n_debug : Str := ⟨#[95, 95, 100, 101, 98, 117, 103, 95, 95]⟩
theorem n_debug_eq : n_debug = ("__debug__" : Str) := by decide +kernel
def n_classdict : Str := ⟨#[95, 95, 99, 108, 97, 115, 115, 100, 105, 99, 116, 95, 95]⟩
theorem n_classdict_eq : n_classdict = ("__classdict__" : Str) := by decide +kernel
def n_class : Str := ⟨#[95, 95, 99, 108, 97, 115, 115, 95, 95]⟩
theorem n_class_eq : n_class = ("__class__" : Str) := by decide +kernel
def n_init : Str := ⟨#[95, 95, 105, 110, 105, 116, 95, 95]⟩
theorem n_init_eq : n_init = ("__init__" : Str) := by decide +kernel
def n_self : Str := ⟨#[115, 101, 108, 102]⟩
theorem n_self_eq : n_self = ("self" : Str) := by decide +kernel
def n_super : Str := ⟨#[115, 117, 112, 101, 114]⟩
theorem n_super_eq : n_super = ("super" : Str) := by decide +kernel
def n_len : Str := ⟨#[108, 101, 110]⟩
theorem n_len_eq : n_len = ("len" : Str) := by decide +kernel
def n_abs : Str := ⟨#[97, 98, 115]⟩
theorem n_abs_eq : n_abs = ("abs" : Str) := by decide +kernel
def n_max : Str := ⟨#[109, 97, 120]⟩
theorem n_max_eq : n_max = ("max" : Str) := by decide +kernel
def n_min : Str := ⟨#[109, 105, 110]⟩
theorem n_min_eq : n_min = ("min" : Str) := by decide +kernel
def n_divmod : Str := ⟨#[100, 105, 118, 109, 111, 100]⟩
theorem n_divmod_eq : n_divmod = ("divmod" : Str) := by decide +kernel
def n_all : Str := ⟨#[97, 108, 108]⟩
theorem n_all_eq : n_all = ("all" : Str) := by decide +kernel
def n_any : Str := ⟨#[97, 110, 121]⟩
theorem n_any_eq : n_any = ("any" : Str) := by decide +kernel
def n_sum : Str := ⟨#[115, 117, 109]⟩
theorem n_sum_eq : n_sum = ("sum" : Str) := by decide +kernel
def n_int : Str := ⟨#[105, 110, 116]⟩
theorem n_int_eq : n_int = ("int" : Str) := by decide +kernel
def n_tuple : Str := ⟨#[116, 117, 112, 108, 101]⟩
theorem n_tuple_eq : n_tuple = ("tuple" : Str) := by decide +kernel
def n_list : Str := ⟨#[108, 105, 115, 116]⟩
theorem n_list_eq : n_list = ("list" : Str) := by decide +kernel
def n_str : Str := ⟨#[115, 116, 114]⟩
theorem n_str_eq : n_str = ("str" : Str) := by decide +kernel
def n_bool : Str := ⟨#[98, 111, 111, 108]⟩
theorem n_bool_eq : n_bool = ("bool" : Str) := by decide +kernel
def n_dict : Str := ⟨#[100, 105, 99, 116]⟩
theorem n_dict_eq : n_dict = ("dict" : Str) := by decide +kernel
def n_isinstance : Str := ⟨#[105, 115, 105, 110, 115, 116, 97, 110, 99, 101]⟩
theorem n_isinstance_eq : n_isinstance = ("isinstance" : Str) := by decide +kernel
def n_range : Str := ⟨#[114, 97, 110, 103, 101]⟩
theorem n_range_eq : n_range = ("range" : Str) := by decide +kernel
def n_enumerate : Str := ⟨#[101, 110, 117, 109, 101, 114, 97, 116, 101]⟩
theorem n_enumerate_eq : n_enumerate = ("enumerate" : Str) := by decide +kernel
def n_zip : Str := ⟨#[122, 105, 112]⟩
theorem n_zip_eq : n_zip = ("zip" : Str) := by decide +kernel
def n_append : Str := ⟨#[97, 112, 112, 101, 110, 100]⟩
theorem n_append_eq : n_append = ("append" : Str) := by decide +kernel
def n_extend : Str := ⟨#[101, 120, 116, 101, 110, 100]⟩
theorem n_extend_eq : n_extend = ("extend" : Str) := by decide +kernel
def n_join : Str := ⟨#[106, 111, 105, 110]⟩
theorem n_join_eq : n_join = ("join" : Str) := by decide +kernel
def n_index : Str := ⟨#[105, 110, 100, 101, 120]⟩
theorem n_index_eq : n_index = ("index" : Str) := by decide +kernel
def n_sorted : Str := ⟨#[115, 111, 114, 116, 101, 100]⟩
theorem n_sorted_eq : n_sorted = ("sorted" : Str) := by decide +kernel
def n_repr : Str := ⟨#[114, 101, 112, 114]⟩
theorem n_repr_eq : n_repr = ("repr" : Str) := by decide +kernel
def n_split : Str := ⟨#[115, 112, 108, 105, 116]⟩
theorem n_split_eq : n_split = ("split" : Str) := by decide +kernel
def n_partition : Str := ⟨#[112, 97, 114, 116, 105, 116, 105, 111, 110]⟩
theorem n_partition_eq : n_partition = ("partition" : Str) := by decide +kernel
def n_replace : Str := ⟨#[114, 101, 112, 108, 97, 99, 101]⟩
theorem n_replace_eq : n_replace = ("replace" : Str) := by decide +kernel
def n_upper : Str := ⟨#[117, 112, 112, 101, 114]⟩
theorem n_upper_eq : n_upper = ("upper" : Str) := by decide +kernel
def n_pop : Str := ⟨#[112, 111, 112]⟩
theorem n_pop_eq : n_pop = ("pop" : Str) := by decide +kernel
def n_get : Str := ⟨#[103, 101, 116]⟩
theorem n_get_eq : n_get = ("get" : Str) := by decide +kernel
def n_items : Str := ⟨#[105, 116, 101, 109, 115]⟩
theorem n_items_eq : n_items = ("items" : Str) := by decide +kernel
def n_keys : Str := ⟨#[107, 101, 121, 115]⟩
theorem n_keys_eq : n_keys = ("keys" : Str) := by decide +kernel
def n_values : Str := ⟨#[118, 97, 108, 117, 101, 115]⟩
theorem n_values_eq : n_values = ("values" : Str) := by decide +kernel
def n_remove : Str := ⟨#[114, 101, 109, 111, 118, 101]⟩
theorem n_remove_eq : n_remove = ("remove" : Str) := by decide +kernel
def n_None : Str := ⟨#[78, 111, 110, 101]⟩
theorem n_None_eq : n_None = ("None" : Str) := by decide +kernel
def n_True : Str := ⟨#[84, 114, 117, 101]⟩
theorem n_True_eq : n_True = ("True" : Str) := by decide +kernel
/-- what a name of the module is: a def that changes nothing; one that may; a class; a constant; an exception; one with a field -/
inductive FI where
  | P (n lvl : Nat) (f : List D → R D)
  | I (n lvl : Nat) (f : List W → S → RS W)
  | M (c n lvl : Nat) (frz : Bool) (f : List W → S → RS W)
  | K (d : D)
  | X (c : Nat)
  | XF (c : Nat) (f : Str)
/-- the tables: names; places of attributes; built-in names that the module leaves as they are; which exception is caught by which -/
structure Tb where
  nm : List (Str × FI)
  at_ : List (Str × (Nat → Option Nat))
  pr : List (Str × Nat × (Nat → Option (List D → R D)))
  bi : List Str
  sub : Nat → Nat → Option Bool
def EOk (C : Cg) (P : Program) (w : World) (K : PySem.W.Frag) (mg : Str → Option Value) (base : Heap) (x : Str) : FI → Prop
  | .P n l f => FQ P w K mg base x l (spP K C n f) ∧ AskP n f
  | .I n l f => FQ P w K mg base x l (spI K C n f) ∧ AskI n f
  | .M c n l _ f => MQ P w K mg base x (C.cl c) l (spI K C n f) ∧ AskI n f ∧ C.kn c = true ∧ IsF K C (.own c) (.ref (C.cl c)) ∧ mg x = some (.ref (C.cl c))
  | .K d => GK K C mg x d
  | .X c => MsC K (C.cl c) ∧ C.xf c = none ∧ mg x = some (.ref (C.cl c))
  | .XF c f => (∃ B newId initId bm, SuC K P.main.file (C.cl c) f B newId initId bm) ∧ C.xf c = some f ∧ mg x = some (.ref (C.cl c))
structure TOk (C : Cg) (P : Program) (w : World) (K : PySem.W.Frag) (mg : Str → Option Value) (base : Heap) (T : Tb) : Prop where
  gc : ∀ c, C.kn c = true → GC K C c
  top : (P.main.scope.names.lookup ("super" : Str)).isSome = false
  nm : ∀ x i, slook T.nm x = some i → EOk C P w K mg base x i
  at_ : ∀ x i, slook T.at_ x = some i → GS K C x i
  pr : ∀ x l h, slook T.pr x = some (l, h) → ∀ c g, h c = some g → PQ P w K mg base (C.cl c) x l (spP K C 1 g)
  bi : ∀ x, smem x T.bi = true → mg x = none
  ty : smem n_int T.bi = true → IsF K C .int (.type "int")
  ty2 : smem n_str T.bi = true → IsF K C .str (.type "str")
  ty3 : smem n_bool T.bi = true → IsF K C .bool (.type "bool")
  ty4 : smem n_tuple T.bi = true → IsF K C .tuple (.type "tuple")
  ty5 : smem n_list T.bi = true → IsF K C .list (.type "list")
  ty6 : smem n_dict T.bi = true → IsF K C .dict (.type "dict")
  sub : ∀ c d b, T.sub c d = some b → PySem.W.exmOne K (.ref (C.cl c)) (.ref (C.cl d)) = some b
  xsub : ∀ x c f, slook T.nm x = some (.XF c f) → ∀ d, T.sub d c = some true → C.xf d = some f ∧ XfC K (C.cl d) ∧ PySem.W.findIn K (.ref (C.cl d)) f = some none
/-- what stands still of a context -/
structure Cs where
  N : List Str
  sc : Scope
  df : Bool
  k : Nat
  mu : List Nat
  fz : List (Nat × List Nat)
  rr : Bool
structure XOk (C : Cg) (T : Tb) (c : Cs) (X : Cx) : Prop where
  N : X.N = c.N
  sc : X.env.scope = c.sc
  nd : X.N.Nodup
  fn : c.df = true → ∀ x, X.fn x = true
  calm : X.calm = true
  room : Room c.k X.A
  tok : TOk C X.prog X.w X.K X.mg X.base T
def Cs.blk (c : Cs) (scope : Scope) : Cs := { c with sc := relS scope c.sc, df := false }
theorem XOk.blk {C : Cg} {T : Tb} {c : Cs} {X : Cx} (o : XOk C T c X) (scope : Scope) (s : Shared) (H : Hp) (B : Addr) (cl : List (Str × Addr)) (fp : List Addr) : XOk C T (c.blk scope) (bk X scope s H B cl fp) where
  N := o.N
  sc := by
    show relS scope X.env.scope = relS scope c.sc
    rw [o.sc]
  nd := o.nd
  fn := fun h => by cases h
  calm := o.calm
  room := o.room
  tok := o.tok
end Z
end

section
set_option Elab.async false
set_option linter.all false
set_option maxRecDepth 100000
set_option maxHeartbeats 4000000
/-! The translation of expressions: the plain function of a piece of the program, found by computation. -/
namespace Z
open PySem PySem.Spec PyProof.Rows L2
/-- the translations had so far (one turn less) -/
structure Rc where
  e : Cs → Expr → Option CE
  t : Cs → Expr → Option CT
  l : Cs → Expr → Option CL
  i : Cs → Expr → Expr → Option CI
  g : Cs → Expr → Option (TG × List Nat)
structure Snd (C : Cg) (T : Tb) (r : Rc) : Prop where
  e : ∀ c X, XOk C T c X → ∀ x f, r.e c x = some f → SE C X x f
  t : ∀ c X, XOk C T c X → ∀ x f, r.t c x = some f → ST C X x f
  l : ∀ c X, XOk C T c X → ∀ x f, r.l c x = some f → SN C X x f
  i : ∀ c X, XOk C T c X → ∀ tg x f, r.i c tg x = some f → SI C X tg x f
  g : ∀ c X, XOk C T c X → ∀ x f sl, r.g c x = some (f, sl) → SG C X x f sl
def Rc.no : Rc := ⟨fun _ _ => none, fun _ _ => none, fun _ _ => none, fun _ _ _ => none, fun _ _ => none⟩
theorem Snd.no {C : Cg} {T : Tb} : Snd C T Rc.no := ⟨fun _ _ _ _ _ h => (by cases h), fun _ _ _ _ _ h => (by cases h), fun _ _ _ _ _ h => (by cases h), fun _ _ _ _ _ _ h => (by cases h), fun _ _ _ _ _ _ h => (by cases h)⟩

/-! ### small looks at a piece -/
def notSet : Expr → Bool
  | .Set _ _ _ => false
  | _ => true
def notStar : Expr → Bool
  | .Starred _ _ => false
  | _ => true
/-- no call of super without arguments -/
def notCall0 : Expr → Bool
  | .Call (.Name x _) [] [] _ => !seq x n_super
  | _ => true
def notLc : Expr → Bool
  | .ListComp _ _ _ _ => false
  | .SetComp _ _ _ _ => false
  | .DictComp _ _ _ _ _ => false
  | _ => true
/-- its truth is asked of its value -/
def plainT : Expr → Bool
  | .UnaryOp .Not _ _ => false
  | .BoolOp _ _ _ => false
  | .IfExp _ _ _ _ => false
  | .Compare _ _ _ _ => false
  | _ => true
section
variable {C : Cg} {T : Tb} {c : Cs} {X : Cx} {r : Rc} {e : Expr} {es : List Expr} {env : PySem.Env}
theorem star_cons (h : notStar e = true) : starEach (e :: es) env = (false, eval e env) :: starEach es env := by
  cases e <;> first | rfl | cases h
theorem asg_cons (h : notStar e = true) : (assignEach (e :: es) env).map (·.2) = assign e env :: (assignEach es env).map (·.2) := by
  cases e <;> first | rfl | cases h
theorem base_of {f : Str} (h : notCall0 e = true) : attributeBase e f env (eval e env) = eval e env := by
  unfold attributeBase
  split
  · rename_i x p1 p2
    have h : seq x n_super = false := by simpa [notCall0] using h
    have q : (x != ("super" : Str)) = true := by
      rw [bne, ← n_super_eq, seq_ne h]
      rfl
    rw [q]
    rfl
  · rfl
theorem marks_of {op : CmpOp} (h : notSet e = true) : behindInMarks op e = false := by
  cases e <;> first | rfl | cases h
theorem fold_of (h : notSet e = true) : ∀ x, foldedSetIterable e env x = pure x := by
  intro x
  cases e <;> first | rfl | cases h
theorem tru_of (h : plainT e = true) : ∀ whole, isTrue e env whole = (do let v ← whole; standAt e.pos; holding [v] (truthy v)) := by
  intro w
  cases e <;> first | rfl | cases h | skip
  rename_i op x p
  cases op <;> first | rfl | cases h
theorem swaps_of {tg : Option Expr} {l : Nat} (h : notLc e = true) : swapsWith e tg l env = pure false := by
  cases e <;> first | rfl | cases h
def noStars (es : List Expr) : Bool := es.all notStar
theorem plain_of {pos : Pos} : ∀ {es : List Expr}, noStars es = true → (backTo pos (starEach es env)).any (·.1) = false
  | [], _ => rfl
  | e :: es, h => by
    simp only [noStars, List.all_cons, Bool.and_eq_true] at h
    rw [star_cons h.1]
    show (false || (backTo pos (starEach es env)).any (·.1)) = false
    rw [plain_of (es := es) h.2]
    rfl

/-! ### names, constants -/
def dbg (x : Str) : Bool := seq x n_debug || seq x n_classdict
theorem dbg_1 {x : Str} (h : dbg x = false) : (x == ("__debug__" : Str)) = false := by
  unfold dbg at h
  rw [Bool.or_eq_false_iff] at h
  rw [← n_debug_eq]
  exact seq_ne h.1
theorem dbg_2 {x : Str} (h : dbg x = false) : (x == ("__classdict__" : Str)) = false := by
  unfold dbg at h
  rw [Bool.or_eq_false_iff] at h
  rw [← n_classdict_eq]
  exact seq_ne h.2
def isVis : Option NameKind → Bool
  | some .local => true
  | some .cell => true
  | some .free => true
  | _ => false
def isGlb : Option NameKind → Bool
  | some .globalImplicit => true
  | _ => false
def isLc : Option NameKind → Bool
  | some .local => true
  | _ => false
def isCell : Option NameKind → Bool
  | some .cell => true
  | _ => false
theorem vis_of (o : XOk C T c X) {x : Str} (h : isVis (slook c.sc.names x) = true) : Vis X.env.scope x := by
  unfold Vis
  rw [o.sc, slook_eq]
  revert h
  cases slook c.sc.names x with
  | none => intro h; cases h
  | some k => cases k <;> intro h <;> simp_all [isVis]
theorem glb_of (o : XOk C T c X) {x : Str} (h : isGlb (slook c.sc.names x) = true) : Gl X x := by
  show X.env.scope.names.lookup x = some .globalImplicit
  rw [o.sc, slook_eq]
  revert h
  cases slook c.sc.names x with
  | none => intro h; cases h
  | some k => cases k <;> intro h <;> simp_all [isGlb]
theorem lc_of (o : XOk C T c X) {x : Str} (h : isLc (slook c.sc.names x) = true) : X.env.scope.names.lookup x = some .local := by
  rw [o.sc, slook_eq]
  revert h
  cases slook c.sc.names x with
  | none => intro h; cases h
  | some k => cases k <;> intro h <;> simp_all [isLc]
theorem cell_of (o : XOk C T c X) {x : Str} (h : isCell (slook c.sc.names x) = true) : X.env.scope.names.lookup x = some .cell := by
  rw [o.sc, slook_eq]
  revert h
  cases slook c.sc.names x with
  | none => intro h; cases h
  | some k => cases k <;> intro h <;> simp_all [isCell]
theorem sidx_of (o : XOk C T c X) {x : Str} {i : Nat} (h : sidx c.N x = some i) : X.N[i]? = some x := by
  rw [o.N]
  exact sidx_get h
def eName (T : Tb) (c : Cs) (x : Str) : Option CE :=
  if dbg x = true then none else
  if isVis (slook c.sc.names x) = true then (match sidx c.N x with
    | some i => some (cVar i)
    | none => none)
  else if isGlb (slook c.sc.names x) = true then (match slook T.nm x with
    | some (.K d) => some (cK d)
    | _ => none)
  else none
theorem eName_ok (o : XOk C T c X) {x : Str} {p : Pos} {f : CE} (h : eName T c x = some f) : SE C X (.Name x p) f := by
  unfold eName at h
  split at h
  · cases h
  · rename_i hd
    have hd : dbg x = false := by simpa using hd
    split at h
    · rename_i hv
      split at h
      · rename_i i hi
        cases h
        exact se_var i (sidx_of o hi) (vis_of o hv) (dbg_1 hd) (dbg_2 hd)
      · cases h
    · split at h
      · rename_i hg
        split at h
        · rename_i d hk
          cases h
          exact se_glob (o.tok.nm _ _ hk) (glb_of o hg) (dbg_1 hd)
        · cases h
      · cases h
def eConst : Const → Option CE
  | .none => some (cK .non)
  | .bool b => some (cK (.bl b))
  | .int i => some (cK (.int i))
  | .str s => if s.cps.toList.length ≤ 16777216 then some (cK (.str s.cps.toList)) else none
  | _ => none
theorem eConst_ok {v : Const} {k : Nat} {p : Pos} {f : CE} (h : eConst v = some f) : SE C X (.Constant v k p) f := by
  unfold eConst at h
  split at h
  · cases h; exact se_non
  · cases h; exact se_bl
  · cases h; exact se_int
  · split at h
    · rename_i s hl
      cases h
      exact se_str _ rfl hl
    · cases h
  · cases h

/-! ### operations -/
def binOf : Operator → Option Op2
  | .Add => some oAdd
  | .Sub => some oSub
  | .Mult => some oMul
  | .FloorDiv => some oDiv
  | .Mod => some oMod
  | .Pow => some oPow
  | _ => none
theorem binOf_ok {op : Operator} {k : Op2} (h : binOf op = some k) : OpOk C X (binaryOp op) k := by
  cases op <;> first | (cases h; done) | (cases h; first | exact ok_add | exact ok_sub | exact ok_mul | exact ok_div | exact ok_mod | exact ok_pow)
def cmpOf : CmpOp → Option Op2
  | .Eq => some oEq
  | .NotEq => some oNe
  | .Lt => some oLt
  | .LtE => some oLe
  | .Gt => some oGt
  | .GtE => some oGe
  | .In => some oIn
  | .NotIn => some oNin
  | _ => none
theorem cmpOf_ok {op : CmpOp} {k : Op2} {j : Nat} (hr : Room j X.A) (h : cmpOf op = some k) : OpOk C X (compareOp op) k := by
  cases op <;> first | (cases h; done) | (cases h; first | exact ok_eq hr | exact ok_ne hr | exact ok_lt hr | exact ok_le hr | exact ok_gt | exact ok_ge | exact ok_in hr | exact ok_nin hr)
/-- a comparison -/
def eCmp (r : Rc) (c : Cs) (a : Expr) (ops : List CmpOp) (bs : List Expr) : Option CE := match ops, bs with
  | [.Is], [.Constant .none _ _] => (r.e c a).map (cUn oIsN)
  | [.IsNot], [.Constant .none _ _] => (r.e c a).map (cUn oNotN)
  | [op], [b] => if notSet b = true then (match cmpOf op with
    | some k => do let fa ← r.e c a; let fb ← r.e c b; some (cOp k fa fb)
    | none => none) else none
  | [op, op'], [b, d] => if notSet b && notSet d then (match cmpOf op, cmpOf op' with
    | some k, some k' => do let fa ← r.e c a; let fb ← r.e c b; let fd ← r.e c d; some (cChain k k' fa fb fd)
    | _, _ => none) else none
  | _, _ => none
theorem eCmp_ok (hs : Snd C T r) (o : XOk C T c X) {a : Expr} {ops : List CmpOp} {bs : List Expr} {p : Pos} {f : CE} (h : eCmp r c a ops bs = some f) :
    SE C X (.Compare a ops bs p) f ∧ ST C X (.Compare a ops bs p) (cTB f) := by
  unfold eCmp at h
  split at h
  · simp only [Option.map_eq_some_iff] at h
    obtain ⟨fa, ha, rfl⟩ := h
    exact ⟨se_isN (hs.e _ _ o _ _ ha), st_isN (hs.e _ _ o _ _ ha)⟩
  · simp only [Option.map_eq_some_iff] at h
    obtain ⟨fa, ha, rfl⟩ := h
    exact ⟨se_notN (hs.e _ _ o _ _ ha), st_notN (hs.e _ _ o _ _ ha)⟩
  · split at h
    · rename_i hm
      split at h
      · rename_i k hk
        simp only [Option.bind_eq_bind, Option.bind_eq_some_iff, Option.some.injEq] at h
        obtain ⟨fa, ha, fb, hb, rfl⟩ := h
        exact ⟨se_cmp (cmpOf_ok o.room hk) (hs.e _ _ o _ _ ha) (hs.e _ _ o _ _ hb) (marks_of hm), st_cmp (cmpOf_ok o.room hk) (hs.e _ _ o _ _ ha) (hs.e _ _ o _ _ hb) (marks_of hm)⟩
      · cases h
    · cases h
  · split at h
    · rename_i hm
      rw [Bool.and_eq_true] at hm
      split at h
      · rename_i k k' hk hk'
        simp only [Option.bind_eq_bind, Option.bind_eq_some_iff, Option.some.injEq] at h
        obtain ⟨fa, ha, fb, hb, fd, hd, rfl⟩ := h
        have lm : ∀ {op op' : CmpOp} {b d : Expr}, notSet d = true → lastMarks [op, op'] [b, d] = false := fun hd => by
          show behindInMarks _ _ = false
          exact marks_of hd
        exact ⟨se_chain (cmpOf_ok o.room hk) (cmpOf_ok o.room hk') (hs.e _ _ o _ _ ha) (hs.e _ _ o _ _ hb) (hs.e _ _ o _ _ hd) (lm hm.2), st_chain (cmpOf_ok o.room hk) (cmpOf_ok o.room hk') (hs.e _ _ o _ _ ha) (hs.e _ _ o _ _ hb) (hs.e _ _ o _ _ hd) (lm hm.2)⟩
      · cases h
    · cases h
  · cases h
/-- and, or as values -/
def eBool (r : Rc) (c : Cs) (op : BoolOp) : List Expr → Option CE
  | [] => none
  | [a] => r.e c a
  | a :: b :: rest => do
    let fa ← r.e c a
    let fb ← eBool r c op (b :: rest)
    match op with
    | .And => some (cAnd fa fb)
    | .Or => some (cOr fa fb)
theorem eBool_ok (hs : Snd C T r) (o : XOk C T c X) {op : BoolOp} {p : Pos} : ∀ {es : List Expr} {f : CE}, eBool r c op es = some f → SE C X (.BoolOp op es p) f
  | [], f, h => by cases h
  | [a], f, h => by
    unfold eBool at h
    exact se_one (hs.e _ _ o _ _ h)
  | a :: b :: rest, f, h => by
    unfold eBool at h
    simp only [Option.bind_eq_bind, Option.bind_eq_some_iff] at h
    obtain ⟨fa, ha, fb, hb, h⟩ := h
    have q := eBool_ok (p := p) hs o (es := b :: rest) hb
    cases op <;> cases h
    · exact se_and (hs.e _ _ o _ _ ha) q
    · exact se_or (hs.e _ _ o _ _ ha) q
def tBool (r : Rc) (c : Cs) (op : BoolOp) : List Expr → Option CT
  | [] => none
  | [a] => r.t c a
  | a :: b :: rest => do
    let fa ← r.t c a
    let fb ← tBool r c op (b :: rest)
    match op with
    | .And => some (tAnd fa fb)
    | .Or => some (tOr fa fb)
theorem tBool_ok (hs : Snd C T r) (o : XOk C T c X) {op : BoolOp} {p : Pos} : ∀ {es : List Expr} {f : CT}, tBool r c op es = some f → SW C X (.BoolOp op es p) f
  | [], f, h => by cases h
  | [a], f, h => by
    unfold tBool at h
    cases op
    · exact sw_and1 (hs.t _ _ o _ _ h)
    · exact sw_or1 (hs.t _ _ o _ _ h)
  | a :: b :: rest, f, h => by
    unfold tBool at h
    simp only [Option.bind_eq_bind, Option.bind_eq_some_iff] at h
    obtain ⟨fa, ha, fb, hb, h⟩ := h
    have q := tBool_ok (p := p) hs o (es := b :: rest) hb
    cases op <;> cases h
    · exact sw_and (hs.t _ _ o _ _ ha) q
    · exact sw_or (hs.t _ _ o _ _ ha) q

/-! ### arguments -/
/-- where a value is needed that lasts -/
def eD (T : Tb) (r : Rc) (c : Cs) (e : Expr) : Option CE := match e with
  | .Name x _ => (match sidx c.N x with
    | some i => if c.mu.contains i then (r.e c e).map cDone else r.e c e
    | none => r.e c e)
  | .Call (.Name x _) _ _ _ => (match slook T.nm x with
    | some (.I _ _ _) => (r.e c e).map cDone
    | _ => r.e c e)
  | _ => r.e c e
theorem eD_ok (hs : Snd C T r) (o : XOk C T c X) {f : CE} (h : eD T r c e = some f) : SE C X e f := by
  have dn : ∀ {f}, (r.e c e).map cDone = some f → SE C X e f := fun h => by
    simp only [Option.map_eq_some_iff] at h
    obtain ⟨g, hg, rfl⟩ := h
    exact se_done (hs.e _ _ o _ _ hg)
  unfold eD at h
  split at h
  · split at h
    · split at h
      · exact dn h
      · exact hs.e _ _ o _ _ h
    · exact hs.e _ _ o _ _ h
  · split at h
    · exact dn h
    · exact hs.e _ _ o _ _ h
  · exact hs.e _ _ o _ _ h
def trA (f : Expr → Option CE) : List Expr → Option CA
  | [] => some aNil
  | .Starred e _ :: r => do let a ← f e; let g ← trA f r; some (aStar a g)
  | e :: r => do let a ← f e; let g ← trA f r; some (aCons a g)
theorem trA_ok {f : Expr → Option CE} (hf : ∀ e g, f e = some g → SE C X e g) : ∀ {es : List Expr} {g : CA}, trA f es = some g → SA C X es g
  | [], g, h => by cases h; exact sa_nil
  | e :: es, g, h => by
    unfold trA at h
    split at h
    · cases ‹_ :: _ = []›
    · rename_i q
      cases q
      simp only [Option.bind_eq_bind, Option.bind_eq_some_iff, Option.some.injEq] at h
      obtain ⟨a, ha, g, hg, rfl⟩ := h
      exact sa_star (hf _ _ ha) (trA_ok hf hg) rfl
    · rename_i hne q
      cases q
      simp only [Option.bind_eq_bind, Option.bind_eq_some_iff, Option.some.injEq] at h
      obtain ⟨a, ha, g, hg, rfl⟩ := h
      refine sa_cons (hf _ _ ha) (trA_ok hf hg) (star_cons ?_)
      cases e <;> first | rfl | exact (hne _ _ rfl).elim
end
end Z
end

section
set_option Elab.async false
set_option linter.all false
set_option maxRecDepth 100000
set_option maxHeartbeats 4000000
/-! The translation of expressions: calls, places, lists, what is walked, targets; the turn. -/
namespace Z
open PySem PySem.Spec PyProof.Rows L2
section
variable {C : Cg} {T : Tb} {c : Cs} {X : Cx} {r : Rc} {e : Expr} {es : List Expr} {env : PySem.Env} {p pos : Pos}
/-! ### calls of defs -/
/-- a call of a def: its function over the arguments' -/
def callF (i : FI) (k : Nat) (g : CA) : Option CE := match i with
  | .P _ l f => if l ≤ k then some (cCallP f g) else none
  | .I _ l f => if l ≤ k then some (cCallI f g) else none
  | .M cl _ l frz f => if l + 1 ≤ k then some (if frz = true then cDoneO (cMake cl f g) else cMake cl f g) else none
  | _ => none
theorem se_make0 {x : Str} {k n cl : Nat} {f : List W → S → RS W} (F : MQ X.prog X.w X.K X.mg X.base x (C.cl cl) k (spI X.K C n f)) (hk : C.kn cl = true) (q : AskI n f) (hr : Room (k + 1) X.A) (hg : Gl X x) (hdb : (x == ("__debug__" : Str)) = false) : SE C X (.Call (.Name x p) [] [] pos) (cMake cl f aNil) := fun P U w env σ Q tk R E h =>
  ex_make0 F hr tk (fun y dx hy hd hn => make_sp (ws := []) (vs := []) R hk q rfl h hy hd hn) hg hdb
theorem callF_ok (o : XOk C T c X) {x : Str} {i : FI} (hi : slook T.nm x = some i) (hg : Gl X x) (hd : dbg x = false) {g : CA} (ha : SA C X es g) (hst : noStars es = true) {f : CE} (h : callF i c.k g = some f) (h0 : es = [] → g = aNil) :
    SE C X (.Call (.Name x p) es [] pos) f := by
  have q := o.tok.nm _ _ hi
  cases es with
  | nil =>
    obtain rfl := h0 rfl
    cases i with
    | P n l f0 =>
      simp only [callF] at h
      split at h
      · rename_i hl
        cases h
        exact se_callP0 q.1 q.2 (o.room.mono hl) hg (dbg_1 hd)
      · cases h
    | I n l f0 =>
      simp only [callF] at h
      split at h
      · rename_i hl
        cases h
        exact se_callI0 q.1 q.2 (o.room.mono hl) hg (dbg_1 hd)
      · cases h
    | M cl n l frz f0 =>
      simp only [callF] at h
      split at h
      · rename_i hl
        cases h
        have z := se_make0 (p := p) (pos := pos) q.1 q.2.2.1 q.2.1 (o.room.mono hl) hg (dbg_1 hd)
        split
        · exact se_doneO z
        · exact z
      · cases h
    | K d => cases h
    | X cc => cases h
    | XF cc f0 => cases h
  | cons e es =>
    simp only [noStars, List.all_cons, Bool.and_eq_true] at hst
    cases i with
    | P n l f0 =>
      simp only [callF] at h
      split at h
      · rename_i hl
        cases h
        exact se_callP q.1 q.2 (o.room.mono hl) ha hg (dbg_1 hd) (star_cons hst.1) (plain_of hst.2)
      · cases h
    | I n l f0 =>
      simp only [callF] at h
      split at h
      · rename_i hl
        cases h
        exact se_callI q.1 q.2 (o.room.mono hl) ha hg (dbg_1 hd) (star_cons hst.1) (plain_of hst.2)
      · cases h
    | M cl n l frz f0 =>
      simp only [callF] at h
      split at h
      · rename_i hl
        cases h
        have z := se_make (p := p) (pos := pos) q.1 q.2.2.1 q.2.1 (o.room.mono hl) ha hg (dbg_1 hd) (star_cons hst.1) (plain_of hst.2)
        split
        · exact se_doneO z
        · exact z
      · cases h
    | K d => cases h
    | X cc => cases h
    | XF cc f0 => cases h

/-! ### built-in defs -/
def biOf (x : Str) (n : Nat) : Option Bi :=
  if seq x n_len && Nat.beq n 1 then some bLen else
  if seq x n_abs && Nat.beq n 1 then some bAbs else
  if seq x n_max && Nat.beq n 2 then some bMax2 else
  if seq x n_max && Nat.beq n 1 then some bMax1 else
  if seq x n_min && Nat.beq n 2 then some bMin2 else
  if seq x n_divmod && Nat.beq n 2 then some bDivmod else
  if seq x n_all && Nat.beq n 1 then some bAll else
  if seq x n_any && Nat.beq n 1 then some bAny else
  if seq x n_sum && Nat.beq n 1 then some bSum else
  if seq x n_int && Nat.beq n 1 then some bInt else
  if seq x n_tuple && Nat.beq n 1 then some bTuple else none
theorem biOf_ok (o : XOk C T c X) {x : Str} {k : Bi} {n : Nat} {g : CA} (h : biOf x n = some k) (hm : X.mg x = none) (hg : Gl X x) (hd : dbg x = false) (ha : SA C X (e :: es) g) (hst : noStars (e :: es) = true) :
    SE C X (.Call (.Name x p) (e :: es) [] pos) (cBi k g) := by
  simp only [noStars, List.all_cons, Bool.and_eq_true] at hst
  have bi : ∀ {y : Str} {id : String} {k : Bi} (_ : seq x y = true), BiOk C X (.builtin id) k → bootBuiltins y = some (.builtin id) → y ≠ "__name__" → SE C X (.Call (.Name x p) (e :: es) [] pos) (cBi k g) := fun {y id k} e1 b hv hn => by
    rw [seq_iff.mp e1] at hm hg hd ⊢
    exact se_bi b hm hv ha hg hn (dbg_1 hd) (star_cons hst.1) (plain_of hst.2)
  have ty : ∀ {y : Str} {id : String} {k : Bi} (_ : seq x y = true), BiOk C X (.type id) k → bootBuiltins y = some (.type id) → y ≠ "__name__" → SE C X (.Call (.Name x p) (e :: es) [] pos) (cBi k g) := fun {y id k} e1 b hv hn => by
    rw [seq_iff.mp e1] at hm hg hd ⊢
    exact se_ty b hm hv ha hg hn (dbg_1 hd) (star_cons hst.1) (plain_of hst.2)
  unfold biOf at h
  split at h
  · rename_i q; rw [Bool.and_eq_true] at q; cases h; exact bi q.1 bi_len (by rw [n_len_eq]; exact bt_len) (by decide)
  split at h
  · rename_i q; rw [Bool.and_eq_true] at q; cases h; exact bi q.1 bi_abs (by rw [n_abs_eq]; exact bt_abs) (by decide)
  split at h
  · rename_i q; rw [Bool.and_eq_true] at q; cases h; exact bi q.1 (bi_max2 o.calm) (by rw [n_max_eq]; exact bt_max) (by decide)
  split at h
  · rename_i q; rw [Bool.and_eq_true] at q; cases h; exact bi q.1 (bi_max1 o.calm) (by rw [n_max_eq]; exact bt_max) (by decide)
  split at h
  · rename_i q; rw [Bool.and_eq_true] at q; cases h; exact bi q.1 (bi_min2 o.calm) (by rw [n_min_eq]; exact bt_min) (by decide)
  split at h
  · rename_i q; rw [Bool.and_eq_true] at q; cases h; exact bi q.1 bi_divmod (by rw [n_divmod_eq]; exact bt_divmod) (by decide)
  split at h
  · rename_i q; rw [Bool.and_eq_true] at q; cases h; exact bi q.1 (bi_all o.calm) (by rw [n_all_eq]; exact bt_all) (by decide)
  split at h
  · rename_i q; rw [Bool.and_eq_true] at q; cases h; exact bi q.1 (bi_any o.calm) (by rw [n_any_eq]; exact bt_any) (by decide)
  split at h
  · rename_i q; rw [Bool.and_eq_true] at q; cases h; exact bi q.1 (bi_sum o.calm) (by rw [n_sum_eq]; exact bt_sum) (by decide)
  split at h
  · rename_i q; rw [Bool.and_eq_true] at q; cases h; exact ty q.1 bi_int (by rw [n_int_eq]; exact bt_int) (by decide)
  split at h
  · rename_i q; rw [Bool.and_eq_true] at q; cases h; exact ty q.1 bi_tuple (by rw [n_tuple_eq]; exact bt_tuple) (by decide)
  · cases h
/-! ### isinstance -/
/-- what a name asks for as a class -/
def tyOf (T : Tb) (y : Str) : Option Ty :=
  if smem y T.bi = true then (
    if seq y n_int = true then some .int else
    if seq y n_str = true then some .str else
    if seq y n_bool = true then some .bool else
    if seq y n_tuple = true then some .tuple else
    if seq y n_list = true then some .list else
    if seq y n_dict = true then some .dict else none)
  else (match slook T.nm y with
    | some (.M cl _ _ _ _) => some (.own cl)
    | _ => none)
theorem tyOf_ok (o : XOk C T c X) {y : Str} {t : Ty} (h : tyOf T y = some t) (hg : Gl X y) (hd : dbg y = false) : ∃ u v, IsF X.K C t u ∧ PE X (.Name y p) (tC v) ∧ ClsV v u := by
  have ty : ∀ {n : Str} {id : String} (_ : seq y n = true), smem y T.bi = true → bootBuiltins n = some (.type id) → n ≠ "__name__" → PE X (.Name y p) (tC (.ty id)) := fun {n id} e1 hm hv hn => by
    have hm := o.tok.bi _ hm
    rw [seq_iff.mp e1] at hm hg hd ⊢
    exact pe_bltn (v := .ty id) hg hm hv rfl hn (dbg_1 hd)
  unfold tyOf at h
  split at h
  · rename_i hb
    split at h
    · rename_i q; cases h; exact ⟨_, _, o.tok.ty (by rw [seq_iff.mp q] at hb; exact hb), ty q hb (by rw [n_int_eq]; exact bt_int) (by decide), .ty _⟩
    split at h
    · rename_i q; cases h; exact ⟨_, _, o.tok.ty2 (by rw [seq_iff.mp q] at hb; exact hb), ty q hb (by rw [n_str_eq]; exact bt_str) (by decide), .ty _⟩
    split at h
    · rename_i q; cases h; exact ⟨_, _, o.tok.ty3 (by rw [seq_iff.mp q] at hb; exact hb), ty q hb (by rw [n_bool_eq]; exact bt_bool) (by decide), .ty _⟩
    split at h
    · rename_i q; cases h; exact ⟨_, _, o.tok.ty4 (by rw [seq_iff.mp q] at hb; exact hb), ty q hb (by rw [n_tuple_eq]; exact bt_tuple) (by decide), .ty _⟩
    split at h
    · rename_i q; cases h; exact ⟨_, _, o.tok.ty5 (by rw [seq_iff.mp q] at hb; exact hb), ty q hb (by rw [n_list_eq]; exact bt_list) (by decide), .ty _⟩
    split at h
    · rename_i q; cases h; exact ⟨_, _, o.tok.ty6 (by rw [seq_iff.mp q] at hb; exact hb), ty q hb (by rw [n_dict_eq]; exact bt_dict) (by decide), .ty _⟩
    · cases h
  · split at h
    · rename_i hk
      cases h
      have q := o.tok.nm _ _ hk
      exact ⟨_, _, q.2.2.2.1, pe_glob (v := .ref _) hg q.2.2.2.2 rfl (dbg_1 hd), .own _⟩
    · cases h
def eIs (T : Tb) (r : Rc) (c : Cs) (a : Expr) (b : Expr) : Option CE := match b with
  | .Name y _ => if smem n_isinstance T.bi && isGlb (slook c.sc.names y) && !dbg y && notStar a then (match tyOf T y with
    | some t => (r.e c a).map (cIs t)
    | none => none) else none
  | _ => none
theorem eIs_ok (hs : Snd C T r) (o : XOk C T c X) {a b : Expr} {f : CE} (h : eIs T r c a b = some f) (hg : Gl X n_isinstance) : SE C X (.Call (.Name n_isinstance p) [a, b] [] pos) f := by
  unfold eIs at h
  split at h
  · split at h
    · rename_i y py q
      simp only [Bool.and_eq_true, Bool.not_eq_true'] at q
      obtain ⟨⟨⟨q1, q2⟩, q3⟩, q4⟩ := q
      split at h
      · rename_i t ht
        simp only [Option.map_eq_some_iff] at h
        obtain ⟨fa, ha, rfl⟩ := h
        obtain ⟨u, v, k1, k2, k3⟩ := tyOf_ok (p := py) o ht (glb_of o q2) q3
        have hm := o.tok.bi _ q1
        rw [n_isinstance_eq] at hm hg ⊢
        exact se_is k1 o.tok.gc k2 k3 (hs.e _ _ o _ _ ha) hm hg (star_cons q4) (star_cons rfl) (plain_of rfl)
      · cases h
    · cases h
  · cases h

/-! ### new lists -/
/-- the names of a target -/
def tgNames : Expr → List Str
  | .Name x _ => [x]
  | .Tuple es _ _ => es.flatMap fun e => match e with
    | .Name x _ => [x]
    | .Tuple es2 _ _ => es2.flatMap fun e => match e with
      | .Name x _ => [x]
      | _ => []
    | _ => []
  | _ => []
def owns (N : List Str) (xs : List Str) : List (Str × Nat) := xs.filterMap fun x => (sidx N x).map fun i => (x, i)
def subN (a b : List Nat) : Bool := a.all fun i => b.any fun j => Nat.beq i j
theorem subN_ok {a b : List Nat} (h : subN a b = true) : ∀ i ∈ a, i ∈ b := fun i hi => by
  unfold subN at h
  rw [List.all_eq_true] at h
  have := h i hi
  rw [List.any_eq_true] at this
  obtain ⟨j, hj, q⟩ := this
  rw [Nat.eq_of_beq_eq_true q]
  exact hj
/-- a fast form of the look at a block's names -/
def blkD (N : List Str) (sc scope : Scope) (own : List (Str × Nat)) : Bool :=
  (match scope.kind with | .function => true | _ => false) && (scope.names.all fun y => match slook scope.names y.1 with | some k => decide (k = y.2) | none => false) && (own.all fun p => match N[p.2]? with | some z => seq z p.1 | none => false) &&
    (scope.names.all fun y => match y.2 with
      | .free => (match slook sc.names y.1 with | some .cell => true | some .free => true | _ => false)
      | .local => smem y.1 (own.map (·.1)) || !smem y.1 N
      | .cell => smem y.1 (own.map (·.1)) || !smem y.1 N
      | _ => true)
theorem not_smem {x : Str} : ∀ {l : List Str}, smem x l = false → x ∉ l
  | [], _ => by simp
  | k :: r, h => by
    unfold smem at h
    rw [Bool.or_eq_false_iff] at h
    simp only [List.mem_cons, not_or]
    exact ⟨seq_ne' h.1, not_smem h.2⟩
theorem blkD_ok {N : List Str} {sc scope : Scope} {own : List (Str × Nat)} (h : blkD N sc scope own = true) : BlkOk N sc scope own := by
  unfold blkD at h
  simp only [Bool.and_eq_true, List.all_eq_true] at h
  obtain ⟨⟨⟨h1, h2⟩, h3⟩, h4⟩ := h
  refine ⟨?_, fun y hy => ?_, fun p hp => ?_, fun y hy e => ?_, fun y hy e => ?_⟩
  · split at h1
    · assumption
    · cases h1
  · have q := h2 y hy
    rw [slook_eq]
    split at q
    · rename_i k hk
      rw [hk, of_decide_eq_true q]
    · cases q
  · have q := h3 p hp
    split at q
    · rename_i z hz
      rw [hz, seq_iff.mp q]
    · cases q
  · have q := h4 y hy
    simp only [e] at q
    rw [slook_eq]
    split at q <;> first | exact .inl (by assumption) | exact .inr (by assumption) | cases q
  · have q := h4 y hy
    have fin : (smem y.1 (own.map (·.1)) || !smem y.1 N) = true → y.1 ∈ own.map (·.1) ∨ y.1 ∉ N := fun q => by
      rw [Bool.or_eq_true, Bool.not_eq_true'] at q
      exact q.elim (fun q => .inl (smem_mem q)) fun q => .inr (not_smem q)
    rcases e with e | e <;> (simp only [e] at q; exact fin q)
/-- the tests of a clause -/
def trIf (r : Rc) (c : Cs) : List Expr → Option CT
  | [] => some yes
  | [t] => r.t c t
  | _ => none
theorem trIf_ok (hs : Snd C T r) (o : XOk C T c X) {ts : List Expr} {f : CT} (h : trIf r c ts = some f) : STs C X ts f := by
  unfold trIf at h
  split at h
  · cases h; exact sts_nil
  · exact sts_one (hs.t _ _ o _ _ h)
  · cases h
/-- the parts of a comprehension of one clause -/
structure Lc1 where
  it : CI
  g : TG
  t : CT
  el : CE
  vs : List Nat
def trLc (T : Tb) (r : Rc) (c : Cs) (elt tg iter : Expr) (ifs : List Expr) (scope : Scope) : Option Lc1 :=
  let own := owns c.N (tgNames tg)
  if notSet iter && blkD c.N c.sc scope own then do
    let it ← r.i c tg iter
    let (g, sl) ← r.g (c.blk scope) tg
    let t ← trIf r (c.blk scope) ifs
    let el ← eD T r (c.blk scope) elt
    if subN sl (own.map (·.2)) = true then some ⟨it, g, t, el, own.map (·.2)⟩ else none
  else none
theorem trLc_ok (hs : Snd C T r) (o : XOk C T c X) {elt tg iter : Expr} {ifs : List Expr} {scope : Scope} {q : Lc1} (h : trLc T r c elt tg iter ifs scope = some q) :
    ∃ own sl, q.vs = own.map (·.2) ∧ BlkOk X.N X.env.scope scope own ∧ SI C X tg iter q.it ∧ BQ C X scope tg ifs elt q.g q.t q.el sl ∧ (∀ i ∈ sl, i ∈ own.map (·.2)) ∧ (notSet iter = true) := by
  unfold trLc at h
  dsimp only at h
  split at h
  · rename_i k
    rw [Bool.and_eq_true] at k
    simp only [Option.bind_eq_bind, Option.bind_eq_some_iff] at h
    obtain ⟨it, hit, ⟨g, sl⟩, hg, t, ht, el, hel, h⟩ := h
    split at h
    · rename_i hsl
      cases h
      refine ⟨_, sl, rfl, ?_, hs.i _ _ o _ _ _ hit, ⟨fun s H B cl fp => hs.g _ _ (o.blk scope s H B cl fp) _ _ _ hg, fun s H B cl fp => trIf_ok hs (o.blk scope s H B cl fp) ht, fun s H B cl fp => eD_ok hs (o.blk scope s H B cl fp) hel⟩, subN_ok hsl, k.1⟩
      rw [o.N, o.sc]
      exact blkD_ok k.2
    · cases h
  · cases h
structure Lc2 where
  it : CI
  g : TG
  it1 : CI
  g1 : TG
  el : CE
  vs : List Nat
  vs1 : List Nat
def trLc2 (T : Tb) (r : Rc) (c : Cs) (elt tg iter tg1 iter1 : Expr) (scope : Scope) : Option Lc2 :=
  let own := owns c.N (tgNames tg ++ tgNames tg1)
  let vs1 := (owns c.N (tgNames tg1)).map (·.2)
  if notSet iter && notSet iter1 && blkD c.N c.sc scope own then do
    let it ← r.i c tg iter
    let (g, sl) ← r.g (c.blk scope) tg
    let it1 ← r.i (c.blk scope) tg1 iter1
    let (g1, sl1) ← r.g (c.blk scope) tg1
    let el ← eD T r (c.blk scope) elt
    if subN sl (own.map (·.2)) && subN sl1 vs1 && subN vs1 (own.map (·.2)) then some ⟨it, g, it1, g1, el, own.map (·.2), vs1⟩ else none
  else none
theorem trLc2_ok (hs : Snd C T r) (o : XOk C T c X) {elt tg iter tg1 iter1 : Expr} {scope : Scope} {q : Lc2} (h : trLc2 T r c elt tg iter tg1 iter1 scope = some q) :
    ∃ own sl sl1, q.vs = own.map (·.2) ∧ BlkOk X.N X.env.scope scope own ∧ SI C X tg iter q.it ∧ (∀ s H B cl fp, SG C (bk X scope s H B cl fp) tg q.g sl) ∧ (∀ s H B cl fp, SI C (bk X scope s H B cl fp) tg1 iter1 q.it1) ∧ BQ C X scope tg1 [] elt q.g1 yes q.el sl1 ∧ (∀ i ∈ sl, i ∈ own.map (·.2)) ∧ (∀ i ∈ sl1, i ∈ q.vs1) ∧ (∀ i ∈ q.vs1, i ∈ own.map (·.2)) ∧ (notSet iter = true) ∧ notSet iter1 = true := by
  unfold trLc2 at h
  dsimp only at h
  split at h
  · rename_i k
    simp only [Bool.and_eq_true] at k
    simp only [Option.bind_eq_bind, Option.bind_eq_some_iff] at h
    obtain ⟨it, hit, ⟨g, sl⟩, hg, it1, hit1, ⟨g1, sl1⟩, hg1, el, hel, h⟩ := h
    split at h
    · rename_i hsl
      simp only [Bool.and_eq_true] at hsl
      cases h
      refine ⟨_, sl, sl1, rfl, ?_, hs.i _ _ o _ _ _ hit, fun s H B cl fp => hs.g _ _ (o.blk scope s H B cl fp) _ _ _ hg, fun s H B cl fp => hs.i _ _ (o.blk scope s H B cl fp) _ _ _ hit1,
        ⟨fun s H B cl fp => hs.g _ _ (o.blk scope s H B cl fp) _ _ _ hg1, fun s H B cl fp => sts_nil, fun s H B cl fp => eD_ok hs (o.blk scope s H B cl fp) hel⟩, subN_ok hsl.1.1, subN_ok hsl.1.2, subN_ok hsl.2, k.1.1, k.1.2⟩
      rw [o.N, o.sc]
      exact blkD_ok k.2
    · cases h
  · cases h
/-- is it a text? -/
def isTxtE : Expr → Bool
  | .Constant (.str _) _ _ => true
  | _ => false
def stL (T : Tb) (r : Rc) (c : Cs) (e : Expr) : Option CL := match e with
  | .List es _ => (trA (eD T r c) es).map lDisp
  | .ListComp elt [⟨tg, iter, ifs, 0⟩] scope _ => (trLc T r c elt tg iter ifs scope).map fun q => lLc q.it q.g q.t q.el q.vs
  | .ListComp elt [⟨tg, iter, [], 0⟩, ⟨tg1, iter1, [], 0⟩] scope _ => (trLc2 T r c elt tg iter tg1 iter1 scope).map fun q => lLc2 q.it q.g q.it1 q.g1 q.el q.vs q.vs1
  | .Call (.Name x _) [a] [] _ => if seq x n_list && smem n_list T.bi && isGlb (slook c.sc.names x) && notStar a then (r.e c a).map lList else none
  | .Subscript a (.Slice none none (some (.UnaryOp .USub (.Constant (.int 1) _ _) _)) _) _ => (r.e c a).map lRev
  | .Subscript a (.Slice ea eb none _) _ => do
    let fa ← r.e c a
    let l ← (match ea with | none => some pNone | some x => (r.e c x).map pSome)
    let h ← (match eb with | none => some pNone | some x => (r.e c x).map pSome)
    some (lSl fa l h)
  | _ => none
theorem so_ok (hs : Snd C T r) (o : XOk C T c X) {ea : Option Expr} {l : CO} (h : (match ea with | none => some pNone | some x => (r.e c x).map pSome) = some l) : SO C X ea l := by
  cases ea with
  | none => cases h; exact so_none
  | some x =>
    simp only [Option.map_eq_some_iff] at h
    obtain ⟨fx, hx, rfl⟩ := h
    exact so_some (hs.e _ _ o _ _ hx)
theorem stL_ok (hs : Snd C T r) (o : XOk C T c X) {f : CL} (h : stL T r c e = some f) : SN C X e f := by
  unfold stL at h
  split at h
  · simp only [Option.map_eq_some_iff] at h
    obtain ⟨g, hg, rfl⟩ := h
    exact sn_disp (trA_ok (fun _ _ h => eD_ok hs o h) hg)
  · simp only [Option.map_eq_some_iff] at h
    obtain ⟨q, hq, rfl⟩ := h
    obtain ⟨own, sl, e1, k1, k2, k3, k4, k5⟩ := trLc_ok hs o hq
    rw [e1]
    exact sn_lc o.calm o.nd k1 k2 k3 k4 (fold_of k5)
  · simp only [Option.map_eq_some_iff] at h
    obtain ⟨q, hq, rfl⟩ := h
    obtain ⟨own, sl, sl1, e1, k1, k2, k3, k4, k5, k6, k7, k8, k9, k10⟩ := trLc2_ok hs o hq
    rw [e1]
    exact sn_lc2 o.calm o.nd k1 k2 k3 k4 k5 k6 k7 k8 (fold_of k9) (fun env => fold_of k10)
  · split at h
    · rename_i k
      simp only [Bool.and_eq_true] at k
      obtain ⟨⟨⟨k1, k2⟩, k3⟩, k4⟩ := k
      simp only [Option.map_eq_some_iff] at h
      obtain ⟨g, hg, rfl⟩ := h
      have hm := o.tok.bi _ k2
      have hgl := glb_of o k3
      rw [seq_iff.mp k1] at hgl ⊢
      rw [n_list_eq] at hm hgl ⊢
      exact sn_list (x := n_list) o.calm (hs.e _ _ o _ _ hg) hm hgl (star_cons k4)
    · cases h
  · simp only [Option.map_eq_some_iff] at h
    obtain ⟨g, hg, rfl⟩ := h
    exact sn_rev (hs.e _ _ o _ _ hg)
  · simp only [Option.bind_eq_bind, Option.bind_eq_some_iff, Option.some.injEq] at h
    obtain ⟨fa, ha, l, hl, hh, hhh, rfl⟩ := h
    exact sn_sl (hs.e _ _ o _ _ ha) (so_ok hs o hl) (so_ok hs o hhh)
  · cases h
end
end Z
end

section
set_option Elab.async false
set_option linter.all false
set_option maxRecDepth 100000
set_option maxHeartbeats 4000000
/-! The translation of expressions: the turn. -/
namespace Z
open PySem PySem.Spec PyProof.Rows L2
section
variable {C : Cg} {T : Tb} {c : Cs} {X : Cx} {r : Rc} {e : Expr} {es : List Expr} {env : PySem.Env} {p pos : Pos} {fa fb : CE}
theorem idxA_or (en : Env) (s : S) : cOp oIdxA fa fb en s = cOp oIdx fa fb en s ∨ cOp oIdxA fa fb en s = cOp oIdxD fa fb en s := by
  unfold cOp
  cases fa en s with
  | bad => exact .inl rfl
  | exc x s1 => exact .inl rfl
  | ok x s1 =>
    simp only [RS.bind]
    cases fb en s1 with
    | bad => exact .inl rfl
    | exc y s2 => exact .inl rfl
    | ok y s2 =>
      dsimp only
      cases view x s2 with
      | none => exact .inl rfl
      | some u =>
        cases view y s2 with
        | none => exact .inl (by cases u <;> rfl)
        | some v =>
          cases u with
          | dic ks xs => exact .inr rfl
          | _ => exact .inl rfl
def notSlice : Expr → Bool
  | .Slice _ _ _ _ => false
  | _ => true
theorem plainIx (h : notSlice e = true) : PlainIx e := fun o i => by
  cases e <;> first | rfl | cases h
theorem se_idxA {k : Nat} {a b : Expr} (hr : Room k X.A) (ha : SE C X a fa) (hb : SE C X b fb) (hs : notSlice b = true) : SE C X (.Subscript a b pos) (cOp oIdxA fa fb) := by
  intro P U w env σ Q tk R E h
  rcases idxA_or (fa := fa) (fb := fb) env w.s with q | q
  · rw [q] at h
    exact se_idx ha hb (plainIx hs) P U w env σ Q tk R E h
  · rw [q] at h
    exact se_idxD hr ha hb (plainIx hs) P U w env σ Q tk R E h
/-! ### methods of texts, lists -/
def smOf (m : Str) (n : Nat) : Option SMt :=
  if seq m n_join && Nat.beq n 1 then some kJoin else
  if seq m n_index && Nat.beq n 1 then some kIndex else none
theorem few_of {cpos : Pos} (h : noStars es = true) (hl : es.length < 30) : ((backTo cpos (starEach es env)).all (fun x => !x.1) && (backToKw cpos (keywordEach [] env)).all (fun x => x.1.isSome) && decide (es.length + ([] : List Keyword).length + (if ([] : List Keyword).isEmpty then 0 else 1) < 30)) = true := by
  have h1 : ∀ {es : List Expr}, noStars es = true → (backTo cpos (starEach es env)).all (fun x => !x.1) = true := fun {es} => by
    induction es with
    | nil => intro _; rfl
    | cons e es ih =>
      intro h
      simp only [noStars, List.all_cons, Bool.and_eq_true] at h
      rw [star_cons h.1]
      show (!false && (backTo cpos (starEach es env)).all (fun x => !x.1)) = true
      rw [ih h.2]
      rfl
  rw [h1 h]
  simp only [Bool.true_and, Bool.and_eq_true, decide_eq_true_eq]
  refine ⟨by rfl, ?_⟩
  show es.length + 0 + 0 < 30
  omega
theorem smOf_ok (o : XOk C T c X) {m : Str} {k : SMt} {n : Nat} {g : CA} {a : Expr} {apos cpos : Pos} (h : smOf m n = some k) (ha : SE C X a fa) (hg : SA C X (e :: es) g) (hst : noStars (e :: es) = true) (hc : notCall0 a = true) (hl : (apos.endLine == cpos.line) = true) (hn : (e :: es).length < 30) :
    SE C X (.Call (.Attribute a m apos) (e :: es) [] cpos) (cStrM k fa g) := by
  have hst' := hst
  simp only [noStars, List.all_cons, Bool.and_eq_true] at hst
  unfold smOf at h
  split at h
  · rename_i q; rw [Bool.and_eq_true] at q; cases h
    rw [seq_iff.mp q.1, n_join_eq]
    exact se_strM PySem.F.slot_str_join PySem.F.type_str_join sm_join ha hg (base_of hc) (few_of hst' hn) hl (star_cons hst.1) (plain_of hst.2)
  split at h
  · rename_i q; rw [Bool.and_eq_true] at q; cases h
    rw [seq_iff.mp q.1, n_index_eq]
    exact se_strM PySem.F.slot_str_index PySem.F.type_str_index sm_index ha hg (base_of hc) (few_of hst' hn) hl (star_cons hst.1) (plain_of hst.2)
  · cases h
/-- a method's call -/
def eMeth (T : Tb) (r : Rc) (c : Cs) (a : Expr) (m : Str) (apos : Pos) (es : List Expr) (cpos : Pos) : Option CE :=
  if notCall0 a && noStars es && Nat.beq apos.endLine cpos.line && decide (es.length < 30) then (
    if seq m n_append = true then (match es with
      | [x] => do let fa ← r.e c a; let fx ← eD T r c x; some (cAppend fa fx)
      | _ => none)
    else if seq m n_extend = true then (match es with
      | [x] => do let fa ← r.e c a; let fx ← r.e c x; some (cExtend fa fx)
      | _ => none)
    else (match es with
      | x :: xs => (match smOf m es.length with
        | some k => do let fa ← r.e c a; let g ← trA (r.e c) es; some (cStrM k fa g)
        | none => none)
      | [] => none))
  else none
theorem eMeth_ok (hs : Snd C T r) (o : XOk C T c X) {a : Expr} {m : Str} {apos cpos : Pos} {f : CE} (h : eMeth T r c a m apos es cpos = some f) : SE C X (.Call (.Attribute a m apos) es [] cpos) f := by
  unfold eMeth at h
  split at h
  · rename_i k
    simp only [Bool.and_eq_true, decide_eq_true_eq] at k
    obtain ⟨⟨⟨k1, k2⟩, k3⟩, k4⟩ := k
    have hl : (apos.endLine == cpos.line) = true := by rw [Nat.eq_of_beq_eq_true k3]; exact beq_self_eq_true _
    split at h
    · rename_i q
      split at h
      · simp only [Option.bind_eq_bind, Option.bind_eq_some_iff, Option.some.injEq] at h
        obtain ⟨fa, ha, fx, hx, rfl⟩ := h
        rw [seq_iff.mp q, n_append_eq]
        have k2' := k2
        simp only [noStars, List.all_cons, Bool.and_eq_true] at k2
        exact se_append (hs.e _ _ o _ _ ha) (eD_ok hs o hx) (base_of k1) (few_of k2' k4) hl (star_cons k2.1) (plain_of rfl)
      · cases h
    split at h
    · rename_i q
      split at h
      · simp only [Option.bind_eq_bind, Option.bind_eq_some_iff, Option.some.injEq] at h
        obtain ⟨fa, ha, fx, hx, rfl⟩ := h
        rw [seq_iff.mp q, n_extend_eq]
        have k2' := k2
        simp only [noStars, List.all_cons, Bool.and_eq_true] at k2
        exact se_extend (hs.e _ _ o _ _ ha) (hs.e _ _ o _ _ hx) (base_of k1) (few_of k2' k4) hl (star_cons k2.1) (plain_of rfl)
      · cases h
    split at h
    · split at h
      · rename_i hk
        simp only [Option.bind_eq_bind, Option.bind_eq_some_iff, Option.some.injEq] at h
        obtain ⟨fa, ha, g, hg, rfl⟩ := h
        exact smOf_ok o hk (hs.e _ _ o _ _ ha) (trA_ok (fun _ _ h => hs.e _ _ o _ _ h) hg) k2 k1 hl k4
      · cases h
    · cases h
  · cases h
/-- a call of a name -/
def eCall (T : Tb) (r : Rc) (c : Cs) (x : Str) (es : List Expr) : Option CE :=
  if !dbg x && isGlb (slook c.sc.names x) && noStars es then (match slook T.nm x with
    | some i => (match es with
      | [] => callF i c.k aNil
      | _ :: _ => do let g ← trA (r.e c) es; callF i c.k g)
    | none => if smem x T.bi = true then (match es with
      | [] => none
      | a :: rest => if seq x n_isinstance = true then (match rest with
          | [b] => eIs T r c a b
          | _ => none)
        else (match biOf x es.length with
          | some k => do let g ← trA (r.e c) es; some (cBi k g)
          | none => none)) else none)
  else none
theorem eCall_ok (hs : Snd C T r) (o : XOk C T c X) {x : Str} {f : CE} (h : eCall T r c x es = some f) : SE C X (.Call (.Name x p) es [] pos) f := by
  unfold eCall at h
  split at h
  · rename_i k
    simp only [Bool.and_eq_true, Bool.not_eq_true'] at k
    obtain ⟨⟨k1, k2⟩, k3⟩ := k
    split at h
    · rename_i i hi
      split at h
      · exact callF_ok o hi (glb_of o k2) k1 sa_nil k3 h (fun _ => rfl)
      · simp only [Option.bind_eq_bind, Option.bind_eq_some_iff] at h
        obtain ⟨g, hg, h⟩ := h
        exact callF_ok o hi (glb_of o k2) k1 (trA_ok (fun _ _ h => hs.e _ _ o _ _ h) hg) k3 h (fun e => by cases e)
    · split at h
      · rename_i hb
        split at h
        · cases h
        · split at h
          · rename_i q
            split at h
            · have z := glb_of o k2
              rw [seq_iff.mp q] at z ⊢
              exact eIs_ok hs o h z
            · cases h
          · split at h
            · rename_i k hk
              simp only [Option.bind_eq_bind, Option.bind_eq_some_iff, Option.some.injEq] at h
              obtain ⟨g, hg, rfl⟩ := h
              exact biOf_ok o hk (o.tok.bi _ hb) (glb_of o k2) k1 (trA_ok (fun _ _ h => hs.e _ _ o _ _ h) hg) k3
            · cases h
      · cases h
  · cases h
def trO (r : Rc) (c : Cs) (ea : Option Expr) : Option CO := match ea with | none => some pNone | some x => (r.e c x).map pSome
/-- the turn -/
def stE (T : Tb) (r : Rc) (c : Cs) (e : Expr) : Option CE := match e with
  | .Name x _ => eName T c x
  | .Constant v _ _ => eConst v
  | .UnaryOp .USub a _ => (r.e c a).map (cUn oNeg)
  | .UnaryOp .Not a _ => (r.e c a).map cNot
  | .BinOp a op b _ => (match binOf op with
    | some k => do let fa ← r.e c a; let fb ← r.e c b; some (cOp k fa fb)
    | none => none)
  | .Tuple es _ _ => (trA (eD T r c) es).map cTup
  | .List _ _ => (r.l c e).map cFrz
  | .ListComp _ _ _ _ => (r.l c e).map cFrz
  | .Compare a ops bs _ => eCmp r c a ops bs
  | .BoolOp op es _ => eBool r c op es
  | .IfExp t a b _ => do let ft ← r.t c t; let fa ← r.e c a; let fb ← r.e c b; some (cIf ft fa fb)
  | .Subscript a (.Slice none none (some (.UnaryOp .USub (.Constant (.int 1) _ _) _)) _) _ => (r.e c a).map cRev
  | .Subscript a (.Slice ea eb none _) _ => do let fa ← r.e c a; let l ← trO r c ea; let h ← trO r c eb; some (cSl fa l h)
  | .Subscript a b _ => if notSlice b = true then do let fa ← r.e c a; let fb ← r.e c b; some (cOp oIdxA fa fb) else none
  | .Attribute a f _ => if notCall0 a = true then (match slook T.at_ f with
    | some ix => (r.e c a).map (cFld ix)
    | none => (match slook T.pr f with
      | some (l, h) => if l + 1 ≤ c.k then (r.e c a).map (cProp h) else none
      | none => none)) else none
  | .Call (.Name x _) es [] _ => if seq x n_list = true then (r.l c e).map cFrz else eCall T r c x es
  | .Call (.Attribute a m apos) es [] cpos => eMeth T r c a m apos es cpos
  | _ => none
theorem stE_ok (hs : Snd C T r) (o : XOk C T c X) {f : CE} (h : stE T r c e = some f) : SE C X e f := by
  unfold stE at h
  split at h
  · exact eName_ok o h
  · exact eConst_ok h
  · simp only [Option.map_eq_some_iff] at h
    obtain ⟨g, hg, rfl⟩ := h
    exact se_neg (hs.e _ _ o _ _ hg)
  · simp only [Option.map_eq_some_iff] at h
    obtain ⟨g, hg, rfl⟩ := h
    exact se_not (hs.e _ _ o _ _ hg)
  · split at h
    · rename_i k hk
      simp only [Option.bind_eq_bind, Option.bind_eq_some_iff, Option.some.injEq] at h
      obtain ⟨fa, ha, fb, hb, rfl⟩ := h
      exact se_op (binOf_ok hk) (hs.e _ _ o _ _ ha) (hs.e _ _ o _ _ hb)
    · cases h
  · simp only [Option.map_eq_some_iff] at h
    obtain ⟨g, hg, rfl⟩ := h
    exact se_tup (trA_ok (fun _ _ h => eD_ok hs o h) hg)
  · simp only [Option.map_eq_some_iff] at h
    obtain ⟨g, hg, rfl⟩ := h
    exact se_frz (hs.l _ _ o _ _ hg)
  · simp only [Option.map_eq_some_iff] at h
    obtain ⟨g, hg, rfl⟩ := h
    exact se_frz (hs.l _ _ o _ _ hg)
  · exact (eCmp_ok hs o h).1
  · exact eBool_ok hs o h
  · simp only [Option.bind_eq_bind, Option.bind_eq_some_iff, Option.some.injEq] at h
    obtain ⟨ft, ht, fa, ha, fb, hb, rfl⟩ := h
    exact se_if (hs.t _ _ o _ _ ht) (hs.e _ _ o _ _ ha) (hs.e _ _ o _ _ hb)
  · simp only [Option.map_eq_some_iff] at h
    obtain ⟨g, hg, rfl⟩ := h
    exact se_rev (hs.e _ _ o _ _ hg)
  · simp only [Option.bind_eq_bind, Option.bind_eq_some_iff, Option.some.injEq] at h
    obtain ⟨fa, ha, l, hl, hh, hhh, rfl⟩ := h
    exact se_sl (hs.e _ _ o _ _ ha) (so_ok hs o hl) (so_ok hs o hhh)
  · split at h
    · rename_i k
      simp only [Option.bind_eq_bind, Option.bind_eq_some_iff, Option.some.injEq] at h
      obtain ⟨fa, ha, fb, hb, rfl⟩ := h
      exact se_idxA o.room (hs.e _ _ o _ _ ha) (hs.e _ _ o _ _ hb) k
    · cases h
  · split at h
    · rename_i k
      split at h
      · rename_i ix hix
        simp only [Option.map_eq_some_iff] at h
        obtain ⟨g, hg, rfl⟩ := h
        exact se_fld o.tok.gc (o.tok.at_ _ _ hix) (hs.e _ _ o _ _ hg) (base_of k)
      · split at h
        · rename_i l q hq
          split at h
          · rename_i hl
            simp only [Option.map_eq_some_iff] at h
            obtain ⟨g, hg, rfl⟩ := h
            exact se_prop o.tok.gc (o.tok.pr _ _ _ hq) (o.room.mono hl) (hs.e _ _ o _ _ hg) (base_of k)
          · cases h
        · cases h
    · cases h
  · split at h
    · simp only [Option.map_eq_some_iff] at h
      obtain ⟨g, hg, rfl⟩ := h
      exact se_frz (hs.l _ _ o _ _ hg)
    · exact eCall_ok hs o h
  · exact eMeth_ok hs o h
  · cases h
def stT (r : Rc) (c : Cs) (e : Expr) : Option CT := match e with
  | .Compare a ops bs _ => (eCmp r c a ops bs).map cTB
  | .BoolOp op es _ => tBool r c op es
  | .UnaryOp .Not a _ => (r.t c a).map tNot
  | e => if plainT e = true then (r.e c e).map cTru else none
theorem stT_ok (hs : Snd C T r) (o : XOk C T c X) {f : CT} (h : stT r c e = some f) : ST C X e f := by
  unfold stT at h
  split at h
  · simp only [Option.map_eq_some_iff] at h
    obtain ⟨g, hg, rfl⟩ := h
    exact (eCmp_ok hs o hg).2
  · exact (tBool_ok hs o h).st
  · simp only [Option.map_eq_some_iff] at h
    obtain ⟨g, hg, rfl⟩ := h
    exact st_not (hs.t _ _ o _ _ hg)
  · split at h
    · rename_i k
      simp only [Option.map_eq_some_iff] at h
      obtain ⟨g, hg, rfl⟩ := h
      exact st_tru (hs.e _ _ o _ _ hg) (tru_of k)
    · cases h
def isTup : Expr → Bool
  | .Tuple _ _ _ => true
  | _ => false
/-- what is walked -/
def stI (T : Tb) (r : Rc) (c : Cs) (tg e : Expr) : Option CI := match e with
  | .Call (.Name x _) es [] _ => if isGlb (slook c.sc.names x) && smem x T.bi && noStars es && (seq x n_range || seq x n_enumerate || seq x n_zip) then (
      if seq x n_range = true then (match es with
        | [a] => (r.e c a).map iRg1
        | [a, b] => do let fa ← r.e c a; let fb ← r.e c b; some (iRg2 fa fb)
        | [a, b, d] => do let fa ← r.e c a; let fb ← r.e c b; let fd ← r.e c d; some (iRg3 fa fb fd)
        | _ => none)
      else if isTup tg = true then (
        if seq x n_enumerate = true then (match es with
          | [a] => (r.e c a).map iEnum
          | _ => none)
        else if seq x n_zip = true then (match es with
          | [a, b] => do let fa ← r.e c a; let fb ← r.e c b; some (iZip fa fb)
          | _ => none) else none)
      else none)
    else (r.e c e).map iVal
  | e => (r.e c e).map iVal
theorem stI_ok (hs : Snd C T r) (o : XOk C T c X) {tg : Expr} {f : CI} (h : stI T r c tg e = some f) : SI C X tg e f := by
  have val : ∀ {e : Expr}, (r.e c e).map iVal = some f → SI C X tg e f := fun h => by
    simp only [Option.map_eq_some_iff] at h
    obtain ⟨g, hg, rfl⟩ := h
    exact si_val (hs.e _ _ o _ _ hg)
  unfold stI at h
  split at h
  · split at h
    · rename_i k
      simp only [Bool.and_eq_true] at k
      obtain ⟨⟨⟨k1, k2⟩, k3⟩, k4⟩ := k
      have hm := o.tok.bi _ k2
      have hg := glb_of o k1
      split at h
      · rename_i q
        rw [seq_iff.mp q, n_range_eq] at hm hg ⊢
        split at h
        · simp only [noStars, List.all_cons, Bool.and_eq_true] at k3
          simp only [Option.map_eq_some_iff] at h
          obtain ⟨g, hg', rfl⟩ := h
          exact si_rg1 (hs.e _ _ o _ _ hg') hm hg (star_cons k3.1)
        · simp only [noStars, List.all_cons, Bool.and_eq_true] at k3
          simp only [Option.bind_eq_bind, Option.bind_eq_some_iff, Option.some.injEq] at h
          obtain ⟨fa, ha, fb, hb, rfl⟩ := h
          exact si_rg2 (hs.e _ _ o _ _ ha) (hs.e _ _ o _ _ hb) hm hg (by rw [star_cons k3.1, star_cons k3.2.1]; rfl) (star_cons k3.2.1)
        · simp only [noStars, List.all_cons, Bool.and_eq_true] at k3
          simp only [Option.bind_eq_bind, Option.bind_eq_some_iff, Option.some.injEq] at h
          obtain ⟨fa, ha, fb, hb, fd, hd, rfl⟩ := h
          exact si_rg3 (hs.e _ _ o _ _ ha) (hs.e _ _ o _ _ hb) (hs.e _ _ o _ _ hd) hm hg (star_cons k3.1) (star_cons k3.2.1) (star_cons k3.2.2.1) (plain_of (by simp [noStars, k3.2.1, k3.2.2.1]))
        · cases h
      · split at h
        · rename_i ht
          cases tg <;> first | (cases ht; done) | skip
          split at h
          · rename_i q
            rw [seq_iff.mp q, n_enumerate_eq] at hm hg ⊢
            split at h
            · simp only [noStars, List.all_cons, Bool.and_eq_true] at k3
              simp only [Option.map_eq_some_iff] at h
              obtain ⟨g, hg', rfl⟩ := h
              exact si_enum (hs.e _ _ o _ _ hg') hm hg (star_cons k3.1)
            · cases h
          · split at h
            · rename_i q
              rw [seq_iff.mp q, n_zip_eq] at hm hg ⊢
              split at h
              · simp only [noStars, List.all_cons, Bool.and_eq_true] at k3
                simp only [Option.bind_eq_bind, Option.bind_eq_some_iff, Option.some.injEq] at h
                obtain ⟨fa, ha, fb, hb, rfl⟩ := h
                exact si_zip (hs.e _ _ o _ _ ha) (hs.e _ _ o _ _ hb) hm hg (star_cons k3.1) (star_cons k3.2.1) (plain_of (by simp [noStars, k3.2.1]))
              · cases h
            · cases h
        · cases h
    · exact val h
  · exact val h
/-! ### targets -/
theorem each_len : ∀ {es : List Expr}, (assignEach es env).length = es.length
  | [] => rfl
  | e :: es => by
    cases e <;> (show _ + 1 = _ + 1; rw [each_len (es := es)])
theorem each_no : ∀ {es : List Expr}, noStars es = true → (assignEach es env).findIdx? (·.1) = none
  | [], _ => rfl
  | e :: es, h => by
    simp only [noStars, List.all_cons, Bool.and_eq_true] at h
    have z : assignEach (e :: es) env = (false, assign e env) :: assignEach es env := by
      cases e <;> first | rfl | cases h.1
    rw [z, List.findIdx?_cons]
    simp only [Bool.false_eq_true, if_false]
    rw [each_no (es := es) h.2]
    rfl
def trGs (g : Expr → Option (TG × List Nat)) : List Expr → Option (List TG × List Nat)
  | [] => some ([], [])
  | e :: es => do let (a, s) ← g e; let (as, ss) ← trGs g es; some (a :: as, s ++ ss)
theorem trGs_ok {g : Expr → Option (TG × List Nat)} (hg : ∀ e a s, g e = some (a, s) → SG C X e a s) : ∀ {es : List Expr} {as : List TG} {ss : List Nat}, noStars es = true → trGs g es = some (as, ss) → SGs C X es as ss ∧ es.length = as.length
  | [], as, ss, _, h => by cases h; exact ⟨sgs_nil, rfl⟩
  | e :: es, as, ss, hn, h => by
    unfold trGs at h
    simp only [Option.bind_eq_bind, Option.bind_eq_some_iff, Option.some.injEq] at h
    obtain ⟨⟨a, s⟩, ha, ⟨as', ss'⟩, has, h⟩ := h
    cases h
    simp only [noStars, List.all_cons, Bool.and_eq_true] at hn
    obtain ⟨q1, q2⟩ := trGs_ok hg hn.2 has
    exact ⟨sgs_cons (hg _ _ _ ha) q1 (asg_cons hn.1), by simp [q2]⟩
def okTg (c : Cs) (x : Str) : Bool := isLc (slook c.sc.names x) || (c.df && isCell (slook c.sc.names x))
theorem okTg_1 (o : XOk C T c X) {x : Str} (h : okTg c x = true) : Loc X.env.scope x ∧ (X.fn x = true ∨ X.env.scope.names.lookup x = some .local) := by
  unfold okTg at h
  rw [Bool.or_eq_true, Bool.and_eq_true] at h
  rcases h with h | ⟨h1, h2⟩
  · exact ⟨.inl (lc_of o h), .inr (lc_of o h)⟩
  · exact ⟨.inr (cell_of o h2), .inl (o.fn h1 x)⟩
def stG (T : Tb) (r : Rc) (c : Cs) (e : Expr) : Option (TG × List Nat) := match e with
  | .Name x _ => if okTg c x = true then (match sidx c.N x with
    | some i => some (gNm i, [i])
    | none => none) else none
  | .Tuple es _ _ => if noStars es = true then (trGs (r.g c) es).map fun q => (gTp q.1, q.2) else none
  | .Attribute a f _ => (match slook T.at_ f with
    | some ix => (r.e c a).map fun fa => (gFld ix fa, [])
    | none => none)
  | _ => none
theorem stG_ok (hs : Snd C T r) (o : XOk C T c X) {f : TG} {sl : List Nat} (h : stG T r c e = some (f, sl)) : SG C X e f sl := by
  unfold stG at h
  split at h
  · split at h
    · rename_i k
      split at h
      · rename_i i hi
        cases h
        exact sg_nm o.nd (sidx_of o hi) (okTg_1 o k).1 (okTg_1 o k).2
      · cases h
    · cases h
  · split at h
    · rename_i k
      simp only [Option.map_eq_some_iff] at h
      obtain ⟨⟨as, ss⟩, hq, h⟩ := h
      cases h
      obtain ⟨q1, q2⟩ := trGs_ok (fun e a s h => hs.g _ _ o _ _ _ h) k hq
      exact sg_tp o.calm q1 (each_len.trans q2) (each_no k)
    · cases h
  · split at h
    · rename_i ix hix
      simp only [Option.map_eq_some_iff] at h
      obtain ⟨fa, hfa, h⟩ := h
      cases h
      exact sg_fld o.tok.gc (o.tok.at_ _ _ hix) (hs.e _ _ o _ _ hfa)
    · cases h
  · cases h
def Rc.turn (T : Tb) (r : Rc) : Rc := ⟨stE T r, stT r, stL T r, stI T r, stG T r⟩
theorem Snd.turn (hs : Snd C T r) : Snd C T (r.turn T) := ⟨fun _ _ o _ _ h => stE_ok hs o h, fun _ _ o _ _ h => stT_ok hs o h, fun _ _ o _ _ h => stL_ok hs o h, fun _ _ o _ _ _ h => stI_ok hs o h, fun _ _ o _ _ _ h => stG_ok hs o h⟩
def rcN (T : Tb) : Nat → Rc
  | 0 => Rc.no
  | n + 1 => (rcN T n).turn T
theorem rcN_ok : ∀ n, Snd C T (rcN T n)
  | 0 => Snd.no
  | n + 1 => (rcN_ok n).turn
end
end Z
end

section
set_option Elab.async false
set_option linter.all false
set_option maxRecDepth 100000
set_option maxHeartbeats 4000000
/-! The translation of statements. -/
namespace Z
open PySem PySem.Spec PyProof.Rows L2
/-- .. of statements -/
structure XOkS (C : Cg) (T : Tb) (c : Cs) (X : Cx) : Prop extends XOk C T c X where
  hp : PassesOwn (model X.prog X.w) X.A X.env X.xe
  stk : X.stack = X.env :: X.outer
  frm : X.env.frame = some X.env.locals
  df : c.df = true
  knd : X.env.scope.kind = .function
/-! ### what CPython exchanges -/
/-- names of targets on the line of the first -/
def nmOn (sc : Scope) (l : Nat) : List Expr → Option (List Str)
  | [] => some []
  | .Name x p :: r => if isLc (slook sc.names x) && Nat.beq p.line l then (match nmOn sc l r with
    | some xs => some (x :: xs)
    | none => none) else none
  | _ :: _ => none
def posOfE : Expr → Pos
  | .Name _ p => p
  | _ => ⟨0, 0, 0, 0⟩
/-- surely nothing is exchanged -/
def swNo (sc : Scope) (tg e : Expr) : Bool := match tg, e with
  | .Tuple ts _ _, .Tuple vs _ _ => !(ts.length == 2 || ts.length == 3) || vs.length != ts.length || !noStars vs || (ts.any fun t => match t with
      | .Name x _ => !isLc (slook sc.names x)
      | _ => true) || vs.all (foldedForSure 8)
  | .List _ _, _ => false
  | _, _ => true
section
variable {C : Cg} {T : Tb} {c : Cs} {X : Cx} {r : Rc} {e : Expr} {es : List Expr} {env : PySem.Env} {p pos : Pos} {fa fb : CE}
theorem any_star {f : Expr → Bool} (vs : List Expr) (hf : ∀ e, f e = !notStar e) : vs.any f = !noStars vs := by
  induction vs with
  | nil => rfl
  | cons v vs ih =>
    rw [List.any_cons, ih, hf]
    simp [noStars, Bool.not_and]
theorem fm_len {α β : Type} {f : α → Option β} {q : α → Bool} (h : ∀ a, q a = true → f a = none) : ∀ {l : List α}, l.any q = true → (l.filterMap f).length < l.length
  | [], z => by cases z
  | a :: l, z => by
    rw [List.any_cons, Bool.or_eq_true] at z
    by_cases qa : q a = true
    · rw [List.filterMap_cons_none (h a qa)]
      exact Nat.lt_succ_of_le (List.length_filterMap_le _ _)
    · rcases z with z | z
      · exact absurd z qa
      · have := fm_len h z
        cases e : f a with
        | none => rw [List.filterMap_cons_none e]; exact Nat.lt_succ_of_lt this
        | some b => rw [List.filterMap_cons_some e]; simpa using this
theorem swNo_ok {tg e : Expr} (h : swNo env.scope tg e = true) : swappedStores [tg] e env = pure none := by
  unfold swNo at h
  split at h
  · rename_i ts k1 p1 vs k2 p2
    unfold swappedStores
    dsimp only
    rw [any_star vs]
    · by_cases c1 : (!(ts.length == 2 || ts.length == 3) || vs.length != ts.length || env.blockKind != ScopeKind.function) = true
      · rw [if_pos c1]
      · rw [if_neg c1]
        by_cases c2 : (!noStars vs) = true
        · rw [if_pos c2]
        · rw [if_neg c2]
          split
          · rfl
          · rename_i c3
            split
            · rfl
            · rename_i c4
              exfalso
              simp only [Bool.or_eq_true] at h c1 c2
              rcases h with (((h | h) | h) | h) | h
              · exact c1 (.inl (.inl h))
              · exact c1 (.inl (.inr h))
              · exact c2 h
              · apply c3
                rw [Bool.or_eq_true]
                refine .inl ?_
                rw [bne_iff_ne]
                refine Nat.ne_of_lt (fm_len (fun a qa => ?_) h)
                cases a <;> first | rfl | skip
                rename_i x px
                have : (env.kindOf x == some NameKind.local) = false := by
                  show (env.scope.names.lookup x == some NameKind.local) = false
                  rw [slook_eq]
                  simp only [Bool.not_eq_true'] at qa
                  revert qa
                  cases slook env.scope.names x with
                  | none => intro _; rfl
                  | some k => cases k <;> intro h <;> first | rfl | cases h
                simp [this]
              · exact c4 h
    · intro e
      cases e <;> rfl
  · cases h
  · rename_i h1 h2
    cases tg <;> first | rfl | skip
    · exact (h1 _ _ rfl).elim
    · cases e <;> first | rfl | exact (h2 _ _ _ _ _ _ rfl rfl).elim
theorem dups_of : ∀ {xs : List Str}, xs.Nodup → xs.eraseDups = xs
  | [], _ => rfl
  | x :: xs, h => by
    rw [List.nodup_cons] at h
    rw [List.eraseDups_cons]
    have : xs.filter (fun b => !b == x) = xs := List.filter_eq_self.mpr fun a ha => by
      have : a ≠ x := fun e => h.1 (e ▸ ha)
      simp [this]
    rw [this, dups_of h.2]
theorem nmOn_fm {sc : Scope} {l : Nat} {f : Expr → Option Str} (hf : ∀ x p, isLc (slook sc.names x) = true → p.line = l → f (.Name x p) = some x) : ∀ {ts : List Expr} {xs : List Str}, nmOn sc l ts = some xs → ts.filterMap f = xs ∧ ts.length = xs.length
  | [], xs, h => by cases h; exact ⟨rfl, rfl⟩
  | t :: ts, xs, h => by
    unfold nmOn at h
    split at h
    · cases ‹_ :: _ = []›
    · rename_i q
      cases q
      split at h
      · rename_i k
        rw [Bool.and_eq_true] at k
        split at h
        · rename_i hxs
          cases h
          obtain ⟨e1, e2⟩ := nmOn_fm hf hxs
          rw [List.filterMap_cons_some (hf _ _ k.1 (Nat.eq_of_beq_eq_true k.2)), e1]
          exact ⟨rfl, by simp [e2]⟩
        · cases h
      · cases h
    · cases h
def lineOf (ts : List Expr) : Nat := (ts.head?.map (fun e => e.pos.line)).getD 0
/-- two, three names on one line, exchanged -/
def swYes (c : Cs) (ts vs : List Expr) : Bool := (ts.length == 2 || ts.length == 3) && vs.length == ts.length && noStars vs && !vs.all (foldedForSure 8) && !vs.all (constantsAlone 8)
theorem swYes_ok {ts vs : List Expr} {xs : List Str} {k1 k2 : Nat} {p1 p2 : Pos} (h : swYes c ts vs = true) (hk : env.scope.kind = .function) (hs : env.scope = c.sc) (hn : nmOn c.sc (lineOf ts) ts = some xs) (hd : xs.Nodup) : swappedStores [.Tuple ts k1 p1] (.Tuple vs k2 p2) env = pure (some xs) := by
  unfold swYes at h
  simp only [Bool.and_eq_true, Bool.not_eq_true'] at h
  obtain ⟨⟨⟨⟨h1, h2⟩, h3⟩, h4⟩, h5⟩ := h
  have hb : env.blockKind = .function := by unfold Env.blockKind; rw [hk]; rfl
  have h2 : vs.length = ts.length := by simpa using h2
  unfold swappedStores
  dsimp only
  rw [any_star vs]
  · rw [if_neg (by rw [h1, hb, h2]; simp), if_neg (by rw [h3]; simp)]
    have z := nmOn_fm (sc := c.sc) (l := lineOf ts) (ts := ts) (xs := xs) (f := fun x => match x with
      | Expr.Name id pos => if (env.kindOf id == some .local && pos.line == lineOf ts) = true then some id else none
      | _ => none) (fun x p k1 k2 => by
        have : env.kindOf x = some .local := by
          show env.scope.names.lookup x = _
          rw [hs, slook_eq]
          revert k1
          cases slook c.sc.names x with
          | none => intro h; cases h
          | some k => cases k <;> intro h <;> simp_all [isLc]
        dsimp only
        rw [this, k2]
        simp) hn
    obtain ⟨e1, e2⟩ := z
    have e1' : (ts.filterMap fun x => match x with
      | Expr.Name id pos => if (env.kindOf id == some .local && pos.line == (ts.head?.map (fun x => x.pos.line)).getD 0) = true then some id else none
      | _ => none) = xs := e1
    have rest : ∀ ys : List Str, ys = xs → (if (ys.length != ts.length || ys.eraseDups.length != ys.length) = true then (pure none : Sem (Option (List Str))) else if vs.all (foldedForSure 8) = true then pure none else (do
      if vs.all (constantsAlone 8) = true then unsupported "assign.tuple-of-constant-expressions:order-of-the-stores"
      pure (some ys))) = pure (some xs) := fun ys e => by
      subst e
      rw [dups_of hd, e2, h4, h5]
      simp
    exact rest _ e1'
  · intro e
    cases e <;> rfl

theorem sole_of {t : Expr} {l : Nat} (h : notLc e = true) : swapsWithSole [t] e l env = pure false := swaps_of h
/-! ### several targets, values that may be objects of the store -/
structure SGa (C : Cg) (X : Cx) (ts : List Expr) (gs : List TG) : Prop where
  nox : ∀ xs e s y s', gAll gs xs e s ≠ .exc y s'
  run : ∀ (P : Pm) (U : WX) (w : Wd) (env : Env) (σ : L2.St) (xs : List W) (vs : List V) (Q : L2.St → Hp → Prop), Takes X U → Rel X.K C P w → RE X.K C w env σ → RWs X.K C w xs vs → Out X.K C P U σ (fun w e σ1 => RE X.K C w e σ1) w (gAll gs xs env w.s) Q → GXs X ts vs σ w.H Q
theorem sga_nil : SGa C X [] [] := by
  constructor
  · intro xs e s y s' h
    cases xs with
    | nil => cases h
    | cons => cases h
  · intro P U w env σ xs vs Q tk R E r h
    cases xs with
    | nil =>
      cases (show vs = [] from r)
      exact gxs_of pgs_nil ⟨rfl, h w rfl (.refl R) _ E⟩
    | cons => exact h.elim
theorem out_other' {K : PySem.W.Frag} {P : Pm} {U : WX} {w : Wd} {rel : Wd → Env → L2.St → Prop} {r : RS Env} {Q : L2.St → Hp → Prop} {σ σ1 : L2.St} (n : ∀ y s', r ≠ .exc y s') (h : Out K C P U σ rel w r Q) : Out K C P U σ1 rel w r Q := by
  cases r with
  | ok a s => exact h
  | exc x s => exact absurd rfl (n x s)
  | bad => exact h
theorem sga_cons {g : TG} {gs : List TG} {t1 : List Nat} (h1 : SG C X e g t1) (h2 : SGa C X es gs) (hs : (assignEach (e :: es) X.env).map (·.2) = assign e X.env :: (assignEach es X.env).map (·.2)) : SGa C X (e :: es) (g :: gs) := by
  refine ⟨fun xs e s y s' h => ?_, fun P U w env σ xs vs Q tk R E r h => ?_⟩
  · cases xs with
    | nil => cases h
    | cons x xs =>
      unfold gAll at h
      cases er : g x e s with
      | ok a s1 => rw [er] at h; exact h2.nox _ _ _ _ _ h
      | exc z s1 => exact h1.nox _ _ _ _ _ er
      | bad => rw [er] at h; cases h
  · cases xs with
    | nil => exact h.elim
    | cons x xs =>
      obtain ⟨v, r', rfl, r1, r2⟩ := r
      refine gxs_of (pgs_cons pg_gx pgs_gx hs) ⟨v, r', rfl, ?_⟩
      refine h1.run P U w env σ x v _ tk R E r1 (Out.bind h fun w1 e1 σ1 st E1 h' => ?_)
      exact h2.run P U w1 e1 σ1 xs r' Q tk st.rel E1.1 (RWs.mono st r2) (out_other' (h2.nox _ _ _) h')
theorem trGs_a {g : Expr → Option (TG × List Nat)} (hg : ∀ e a s, g e = some (a, s) → SG C X e a s) : ∀ {es : List Expr} {as : List TG} {ss : List Nat}, noStars es = true → trGs g es = some (as, ss) → SGa C X es as
  | [], as, ss, _, h => by cases h; exact sga_nil
  | e :: es, as, ss, hn, h => by
    unfold trGs at h
    simp only [Option.bind_eq_bind, Option.bind_eq_some_iff, Option.some.injEq] at h
    obtain ⟨⟨a, s⟩, ha, ⟨as', ss'⟩, has, h⟩ := h
    cases h
    simp only [noStars, List.all_cons, Bool.and_eq_true] at hn
    exact sga_cons (hg _ _ _ ha) (trGs_a hg hn.2 has) (asg_cons hn.1)
theorem ss_parT {ts : List Expr} {gs : List TG} {g : CA} {kt k2 : Nat} {pt pt2 : Pos} {n : Nat} (hc : X.calm = true) (ha : SA C X es g) (hg : SGa C X ts gs) (hl : ts.length = n) (hn : n < 1000) (hst : noStars ts = true) (hw : swappedStores [.Tuple ts kt pt] (.Tuple es k2 pt2) X.env = pure none) :
    SS C X (.Assign [.Tuple ts kt pt] (.Tuple es k2 pt2) pos) (sParT n g gs) := by
  intro P U w env σ Dn tk R E h
  refine sx_of (ps_asg (te := EX X _) (g := GX X _) pe_ex pg_gx (sole_of rfl) hw rfl) ?_
  refine ex_of (pe_tup pa_ax) ?_
  refine ha.goF tk R E h fun w1 ws vs st rs E1 h1 => ?_
  split at h1
  · rename_i hlen
    have hl2 : vs.length = n := by rw [← hlen]; exact rs.length.symm
    refine ⟨by rw [hl2]; exact Nat.le_of_lt (Nat.lt_of_lt_of_le hn (by decide)), fun p hp => ?_⟩
    have st2 := step_new st.rel hp (.tup vs)
    have hq : SqT X.K (upd w1.H p (.tup vs)) p vs := SqT.of upd_same
    refine gx_of (pg_tup hc pgs_gx rfl (each_no hst)) ⟨p, vs, rfl, hq, by rw [hl2, each_len, hl], ?_⟩
    refine hg.run P U { w1 with H := upd w1.H p (.tup vs) } env σ ws vs _ tk st2.rel (E1.mono st2) (RWs.mono st2 rs) ?_
    have h2 := OutF.mono st2 h1
    exact OutF.of (E1.mono st2) h2 fun w3 e3 σ3 st3 E3 _ h3 => h3 w3 rfl (.refl st3.rel) _ E3
  · exact h1.elim
/-! ### exceptions with a name -/
def trQ (T : Tb) (c : Cs) (n f : Str) : Nat → Expr → Option (D → CE)
  | 0, _ => none
  | k + 1, e => match e with
    | .Constant v _ _ => (eConst v).map fun f _ => f
    | .Attribute (.Name x _) g _ => if seq x n && seq g f && !dbg x && isVis (slook c.sc.names x) then some fun y => cK y else none
    | .Tuple es _ _ => (trQs (trQ T c n f k) es).map fun g y => cTup (g y)
    | _ => none
where trQs (q : Expr → Option (D → CE)) : List Expr → Option (D → CA)
  | [] => some fun _ => aNil
  | e :: es => do let a ← q e; let g ← trQs q es; if notStar e = true then some fun y => aCons (a y) (g y) else none
theorem trQs_ok {i : Nat} {aa d : Addr} {f : Str} {y : D} {q : Expr → Option (D → CE)} (hq : ∀ e g, q e = some g → SQ C X i aa d f y e (g y)) : ∀ {es : List Expr} {g : D → CA}, trQ.trQs q es = some g → SQA C X i aa d f y es (g y)
  | [], g, h => by cases h; exact sqa_nil
  | e :: es, g, h => by
    unfold trQ.trQs at h
    simp only [Option.bind_eq_bind, Option.bind_eq_some_iff] at h
    obtain ⟨a, ha, g', hg, h⟩ := h
    split at h
    · rename_i hn
      cases h
      exact sqa_cons (hq _ _ ha) (trQs_ok hq hg) (star_cons hn)
    · cases h
theorem trQ_ok {X : Cx} (o : XOk C T c X) {i cc : Nat} {aa d : Addr} {n f : Str} {y : D} {oe : Obj} {pn : List (Addr × Obj)} (hi : sidx c.N n = some i) (t : XfC X.K (C.cl cc)) (hno : PySem.W.findIn X.K (.ref (C.cl cc)) f = some none) (hz : Zc (.ref (C.cl cc)) (some d) oe) (hf : ∃ vs, oe.data = .fields vs) :
    ∀ (k : Nat) (e : Expr) (g : D → CE), trQ T c n f k e = some g → SQ C (X.suite aa ((aa, oe) :: pn)) i aa d f y e (g y)
  | 0, _, _, h => by cases h
  | k + 1, e, g, h => by
    unfold trQ at h
    split at h
    · simp only [Option.map_eq_some_iff] at h
      obtain ⟨g', hg, rfl⟩ := h
      exact sq_of (eConst_ok hg)
    · split at h
      · rename_i x p g' p2 kk
        simp only [Bool.and_eq_true, Bool.not_eq_true'] at kk
        obtain ⟨⟨⟨k1, k2⟩, k3⟩, k4⟩ := kk
        cases h
        rw [seq_iff.mp k2]
        rw [seq_iff.mp k1] at k3 k4 ⊢
        exact sq_xf t hno hz hf (sidx_of o hi) (vis_of o k4) (dbg_1 k3) (dbg_2 k3)
      · cases h
    · simp only [Option.map_eq_some_iff] at h
      obtain ⟨g', hg, rfl⟩ := h
      exact sq_tup (trQs_ok (trQ_ok o hi t hno hz hf k) hg)
    · cases h
end
/-! ### the turn -/
structure Rs where
  b : Cs → List Stmt → Option CS
structure SndS (C : Cg) (T : Tb) (r : Rs) : Prop where
  b : ∀ c X, XOkS C T c X → ∀ x f, r.b c x = some f → SSs C X x f
/-- is it a list made here? -/
def isNewE : Expr → Bool
  | .List _ _ => true
  | .ListComp _ _ _ _ => true
  | .Call (.Name x _) _ _ _ => seq x n_list
  | .Subscript _ (.Slice _ _ _ _) _ => true
  | _ => false
section
variable {C : Cg} {T : Tb} {c : Cs} {X : Cx} {r : Rc} {rs : Rs} {e : Expr} {es : List Expr} {st : Stmt} {sts : List Stmt} {p pos : Pos}
def newOr (r : Rc) (c : Cs) (b : Bool) (e : Expr) : Option CE := if b && isNewE e then (r.l c e).map cNew else r.e c e
theorem newOr_ok (hs : Snd C T r) (o : XOk C T c X) {b : Bool} {f : CE} (h : newOr r c b e = some f) : SE C X e f := by
  unfold newOr at h
  split at h
  · simp only [Option.map_eq_some_iff] at h
    obtain ⟨g, hg, rfl⟩ := h
    exact se_new (hs.l _ _ o _ _ hg)
  · exact hs.e _ _ o _ _ h
def isMu (c : Cs) (x : Str) : Bool := match sidx c.N x with
  | some i => c.mu.contains i
  | none => false
/-- which targets hold lists that change -/
def muTg (T : Tb) (c : Cs) (ma : List Str) : Expr → Bool
  | .Name x _ => isMu c x
  | .Attribute _ f _ => smem f ma
  | _ => false
def trNew (T : Tb) (r : Rc) (c : Cs) (ma : List Str) : List Expr → List Expr → Option CA
  | [], [] => some aNil
  | t :: ts, e :: es => if notStar e = true then do let a ← newOr r c (muTg T c ma t) e; let g ← trNew T r c ma ts es; some (aCons a g) else none
  | _, _ => none
theorem trNew_ok (hs : Snd C T r) (o : XOk C T c X) {ma : List Str} : ∀ {ts es : List Expr} {g : CA}, trNew T r c ma ts es = some g → SA C X es g ∧ ts.length = es.length ∧ noStars es = true
  | [], [], g, h => by cases h; exact ⟨sa_nil, rfl, rfl⟩
  | t :: ts, e :: es, g, h => by
    unfold trNew at h
    split at h
    · rename_i k
      simp only [Option.bind_eq_bind, Option.bind_eq_some_iff, Option.some.injEq] at h
      obtain ⟨a, ha, g', hg, rfl⟩ := h
      obtain ⟨q1, q2, q3⟩ := trNew_ok hs o hg
      exact ⟨sa_cons (newOr_ok hs o ha) q1 (star_cons k), by simp [q2], by simp [noStars, k] at q3 ⊢; exact q3⟩
    · cases h
  | [], _ :: _, _, h => by cases h
  | _ :: _, [], _, h => by cases h
/-- the list of a comprehension goes to a name at once -/
def lcSw (c : Cs) (x : Str) (px : Pos) (scope : Scope) (pl : Pos) : Bool := isLc (slook c.sc.names x) && Nat.beq px.line pl.line && !(scope.names.any fun y => seq y.1 x && (y.2 == .local || y.2 == .cell))
theorem lcSw_ok (o : XOkS C T c X) {x : Str} {px pl : Pos} {scope : Scope} {elt : Expr} {gs : List Comprehension} {l : Nat} (h : lcSw c x px scope pl = true) : swapsWith (.ListComp elt gs scope pl) (some (.Name x px)) l X.env = pure true ∧ X.env.scope.names.lookup x = some .local := by
  unfold lcSw at h
  simp only [Bool.and_eq_true, Bool.not_eq_true'] at h
  obtain ⟨⟨h1, h2⟩, h3⟩ := h
  refine ⟨sw_true o.knd (lc_of o.toXOk h1) (by rw [Nat.eq_of_beq_eq_true h2]; exact beq_self_eq_true _) ?_, lc_of o.toXOk h1⟩
  rw [← h3]
  congr 1
  funext y
  obtain ⟨a, b⟩ := y
  show (a == x && (b == .local || b == .cell)) = (seq a x && (b == .local || b == .cell))
  congr 1
  cases q : seq a x with
  | true => rw [seq_iff.mp q]; exact beq_self_eq_true _
  | false => exact seq_ne q
theorem lcSw_no (o : XOkS C T c X) {x : Str} {px pl : Pos} {scope : Scope} {elt : Expr} {gs : List Comprehension} {l : Nat} (h : lcSw c x px scope pl = false) : swapsWith (.ListComp elt gs scope pl) (some (.Name x px)) l X.env = pure false := by
  have hb : X.env.blockKind = .function := by unfold Env.blockKind; rw [o.knd]; rfl
  have e : (X.env.blockKind == .function && X.env.kindOf x == some .local && px.line == (Expr.ListComp elt gs scope pl).pos.line && !(scope.names.any fun (n, k) => n == x && (k == .local || k == .cell))) = lcSw c x px scope pl := by
    rw [hb]
    unfold lcSw
    congr 1
    · congr 1
      · show (true && X.env.scope.names.lookup x == some NameKind.local) = isLc (slook c.sc.names x)
        rw [Bool.true_and, o.sc, slook_eq]
        cases slook c.sc.names x with
        | none => rfl
        | some k => cases k <;> rfl
      · show (px.line == pl.line) = _
        by_cases q : px.line = pl.line
        · rw [q, beq_self_eq_true, Nat.beq_refl]
        · rw [beq_eq_false_iff_ne.mpr q]
          cases z : Nat.beq px.line pl.line with
          | true => exact absurd (Nat.eq_of_beq_eq_true z) q
          | false => rfl
    · congr 1
      congr 1
      funext y
      obtain ⟨a, b⟩ := y
      show (a == x && (b == .local || b == .cell)) = (seq a x && (b == .local || b == .cell))
      congr 1
      cases q : seq a x with
      | true => rw [seq_iff.mp q]; exact beq_self_eq_true _
      | false => exact seq_ne q
  unfold swapsWith
  dsimp only
  rw [e, h]
def lenOk (n : Nat) : Bool := Nat.ble n 999
def nodupB : List Str → Bool
  | [] => true
  | x :: r => !smem x r && nodupB r
theorem nodupB_ok : ∀ {l : List Str}, nodupB l = true → l.Nodup
  | [], _ => .nil
  | x :: r, h => by
    unfold nodupB at h
    rw [Bool.and_eq_true, Bool.not_eq_true'] at h
    exact List.nodup_cons.mpr ⟨not_smem h.1, nodupB_ok h.2⟩
def stSet (r : Rc) (c : Cs) (x : Str) (e : Expr) : Option CS := if okTg c x = true then (match sidx c.N x with
      | some i => (newOr r c (isMu c x) e).map fun f => sAsg f (gNm i)
      | none => none) else none
theorem stSet_ok (hs : Snd C T r) (o' : XOk C T c X) {x : Str} {f : CS} {px : Pos} (h : stSet r c x e = some f) (hs' : swapsWith e (some (.Name x px)) pos.line X.env = pure false) : SS C X (.Assign [.Name x px] e pos) f := by
  unfold stSet at h
  split at h
  · rename_i k
    split at h
    · rename_i i hi
      simp only [Option.map_eq_some_iff] at h
      obtain ⟨g, hg, rfl⟩ := h
      exact ss_set o'.nd (sidx_of o' hi) (okTg_1 o' k).1 (newOr_ok hs o' hg) (okTg_1 o' k).2 hs'
    · cases h
  · cases h
def stAsg (T : Tb) (ma : List Str) (r : Rc) (c : Cs) (tg e : Expr) : Option CS := match tg, e with
  | .Name x px, .ListComp elt [⟨t0, i0, ifs, 0⟩] scope pl => if lcSw c x px scope pl = true then (match sidx c.N x with
      | some i => (trLc T r c elt t0 i0 ifs scope).map fun q => if isMu c x = true then sAsg (cNew (lLc q.it q.g q.t q.el q.vs)) (gNm i) else sAsg (cFrz (lLc q.it q.g q.t q.el q.vs)) (gNm i)
      | none => none) else stSet r c x e
  | .Name x px, .ListComp elt [⟨t0, i0, [], 0⟩, ⟨t1, i1, [], 0⟩] scope pl => if lcSw c x px scope pl && !isMu c x then (match sidx c.N x with
      | some i => (trLc2 T r c elt t0 i0 t1 i1 scope).map fun q => sAsg (cFrz (lLc2 q.it q.g q.it1 q.g1 q.el q.vs q.vs1)) (gNm i)
      | none => none) else if lcSw c x px scope pl = true then none else stSet r c x e
  | .Name x _, e => if notLc e = true then stSet r c x e else none
  | .Tuple ts _ _, .Tuple es _ _ => if noStars ts = true then (
      if swNo c.sc tg e && lenOk ts.length then do let g ← trNew T r c ma ts es; let (as, _) ← trGs (r.g c) ts; some (sParT ts.length g as)
      else if swYes c ts es = true then (match nmOn c.sc (lineOf ts) ts with
        | some [x, y] => if nodupB [x, y] = true then (match sidx c.N x, sidx c.N y with
            | some i, some j => (trNew T r c ma ts es).map fun g => sPar g [gNm i, gNm j]
            | _, _ => none) else none
        | some [x, y, z] => if nodupB [x, y, z] = true then (match sidx c.N x, sidx c.N y, sidx c.N z with
            | some i, some j, some l => (trNew T r c ma ts es).map fun g => sPar g [gNm i, gNm j, gNm l]
            | _, _, _ => none) else none
        | _ => none)
      else none) else none
  | .Tuple ts k p, e => if notLc e && swNo c.sc tg e then do let f ← r.e c e; let (g, _) ← r.g c tg; some (sAsg f g) else none
  | .Subscript a b _, e => if notLc e && notSlice b then do let v ← eD T r c e; let fa ← r.e c a; let fb ← r.e c b; some (sPut v fa fb) else none
  | .Attribute a f _, e => if notLc e = true then (match slook T.at_ f with
      | some ix => do let v ← newOr r c (smem f ma) e; let fa ← r.e c a; some (sFld ix fa v)
      | none => none) else none
  | _, _ => none
theorem nmOn_2 {sc : Scope} {l : Nat} {ts : List Expr} {x y : Str} (h : nmOn sc l ts = some [x, y]) : ∃ p1 p2, ts = [.Name x p1, .Name y p2] ∧ isLc (slook sc.names x) = true ∧ isLc (slook sc.names y) = true := by
  have one : ∀ {ts : List Expr} {x : Str} {r : List Str}, nmOn sc l ts = some (x :: r) → ∃ p ts', ts = .Name x p :: ts' ∧ isLc (slook sc.names x) = true ∧ nmOn sc l ts' = some r := fun {ts x r} h => by
    unfold nmOn at h
    split at h
    · cases h
    · split at h
      · rename_i k
        rw [Bool.and_eq_true] at k
        split at h
        · cases h; exact ⟨_, _, rfl, k.1, by assumption⟩
        · cases h
      · cases h
    · cases h
  obtain ⟨p1, t1, rfl, k1, h⟩ := one h
  obtain ⟨p2, t2, rfl, k2, h⟩ := one h
  cases t2 with
  | nil => exact ⟨p1, p2, rfl, k1, k2⟩
  | cons a b =>
    exfalso
    unfold nmOn at h
    split at h
    · cases ‹_ :: _ = []›
    · split at h
      · split at h <;> cases h
      · cases h
    · cases h
theorem nmOn_3 {sc : Scope} {l : Nat} {ts : List Expr} {x y z : Str} (h : nmOn sc l ts = some [x, y, z]) : ∃ p1 p2 p3, ts = [.Name x p1, .Name y p2, .Name z p3] ∧ isLc (slook sc.names x) = true ∧ isLc (slook sc.names y) = true ∧ isLc (slook sc.names z) = true := by
  unfold nmOn at h
  split at h
  · cases h
  · split at h
    · rename_i k
      rw [Bool.and_eq_true] at k
      split at h
      · rename_i hh
        cases h
        obtain ⟨p2, p3, rfl, k2, k3⟩ := nmOn_2 hh
        exact ⟨_, p2, p3, rfl, k.1, k2, k3⟩
      · cases h
    · cases h
  · cases h
end
end Z
end

section
set_option Elab.async false
set_option linter.all false
set_option maxRecDepth 100000
set_option maxHeartbeats 4000000
/-! The translation of statements: the turn. -/
namespace Z
open PySem PySem.Spec PyProof.Rows L2
section
variable {C : Cg} {T : Tb} {c : Cs} {X : Cx} {r : Rc} {rs : Rs} {e tg : Expr} {es : List Expr} {st : Stmt} {sts : List Stmt} {p pos : Pos} {ma : List Str}
theorem stAsg_ok (hs : Snd C T r) (o : XOkS C T c X) {f : CS} (h : stAsg T ma r c tg e = some f) : SS C X (.Assign [tg] e pos) f := by
  have o' := o.toXOk
  unfold stAsg at h
  split at h
  · split at h
    · rename_i k
      split at h
      · rename_i i hi
        simp only [Option.map_eq_some_iff] at h
        obtain ⟨q, hq, h⟩ := h
        obtain ⟨own, sl, e1, k1, k2, k3, k4, k5⟩ := trLc_ok hs o' hq
        obtain ⟨w1, w2⟩ := lcSw_ok (l := pos.line) o k
        rw [e1] at h
        split at h
        · cases h
          exact ss_lcN o'.calm o'.nd (sidx_of o' hi) w2 w1 k1 k2 k3 k4 (fold_of k5)
        · cases h
          exact ss_lcF o'.calm o'.nd (sidx_of o' hi) w2 w1 k1 k2 k3 k4 (fold_of k5)
      · cases h
    · rename_i k
      exact stSet_ok hs o' h (lcSw_no o (by simpa using k))
  · split at h
    · rename_i k
      rw [Bool.and_eq_true] at k
      split at h
      · rename_i i hi
        simp only [Option.map_eq_some_iff] at h
        obtain ⟨q, hq, rfl⟩ := h
        obtain ⟨own, sl, sl1, e1, k1, k2, k3, k4, k5, k6, k7, k8, k9, k10⟩ := trLc2_ok hs o' hq
        obtain ⟨w1, w2⟩ := lcSw_ok (l := pos.line) o k.1
        rw [e1]
        exact ss_lc2F o'.calm o'.nd (sidx_of o' hi) w2 w1 k1 k2 k3 k4 k5 k6 k7 k8 (fold_of k9) (fun env => fold_of k10)
      · cases h
    · split at h
      · cases h
      · rename_i k
        exact stSet_ok hs o' h (lcSw_no o (by simpa using k))
  · split at h
    · rename_i k
      exact stSet_ok hs o' h (swaps_of k)
    · cases h
  · rename_i ts kt1 pt1 es kt2 pt2
    split at h
    · rename_i hts
      split at h
      · rename_i k
        rw [Bool.and_eq_true] at k
        simp only [Option.bind_eq_bind, Option.bind_eq_some_iff, Option.some.injEq] at h
        obtain ⟨g, hg, ⟨as, ss⟩, has, rfl⟩ := h
        obtain ⟨a1, a2, a3⟩ := trNew_ok hs o' hg
        exact ss_parT o'.calm a1 (trGs_a (fun e a s h => hs.g _ _ o' _ _ _ h) hts has) rfl (by have := Nat.le_of_ble_eq_true k.2; omega) hts (swNo_ok (by rw [o'.sc]; exact k.1))
      split at h
      · rename_i k
        split at h
        · rename_i x y hn
          split at h
          · rename_i hd
            split at h
            · rename_i i j hi hj
              simp only [Option.map_eq_some_iff] at h
              obtain ⟨g, hg, rfl⟩ := h
              have w := fun k1 k2 p1 p2 => swYes_ok (env := X.env) (k1 := k1) (k2 := k2) (p1 := p1) (p2 := p2) k o.knd o'.sc hn (nodupB_ok hd)
              obtain ⟨p1, p2, rfl, l1, l2⟩ := nmOn_2 hn
              obtain ⟨a1, a2, a3⟩ := trNew_ok hs o' hg
              match es, a1, a2, a3, w with
              | [a, b], a1, a2, a3, w =>
                have hxy : x ≠ y := fun e => by
                  have := nodupB_ok hd
                  rw [e] at this
                  simp at this
                exact ss_par o'.calm o'.nd (sidx_of o' hi) (sidx_of o' hj) (fun e => by
                  have h1 := sidx_of o' hi
                  rw [e, sidx_of o' hj] at h1
                  exact hxy (Option.some.inj h1).symm) (lc_of o' l1) (lc_of o' l2) a1 (w _ _ _ _) (sole_of rfl)
            · cases h
          · cases h
        · rename_i x y z hn
          split at h
          · rename_i hd
            split at h
            · rename_i i j l hi hj hl
              simp only [Option.map_eq_some_iff] at h
              obtain ⟨g, hg, rfl⟩ := h
              have w := fun k1 k2 p1 p2 => swYes_ok (env := X.env) (k1 := k1) (k2 := k2) (p1 := p1) (p2 := p2) k o.knd o'.sc hn (nodupB_ok hd)
              obtain ⟨p1, p2, p3, rfl, l1, l2, l3⟩ := nmOn_3 hn
              obtain ⟨a1, a2, a3⟩ := trNew_ok hs o' hg
              match es, a1, a2, a3, w with
              | [a, b, d], a1, a2, a3, w =>
                have nd := nodupB_ok hd
                simp only [List.nodup_cons, List.mem_cons, List.not_mem_nil, or_false, not_or] at nd
                have ne : ∀ {i j : Nat} {x y : Str}, x ≠ y → X.N[i]? = some x → X.N[j]? = some y → i ≠ j := fun hxy h1 h2 e => by
                  rw [e, h2] at h1
                  exact hxy (Option.some.inj h1).symm
                exact ss_par3 o'.calm o'.nd (sidx_of o' hi) (sidx_of o' hj) (sidx_of o' hl) (ne nd.1.1 (sidx_of o' hi) (sidx_of o' hj)) (ne nd.1.2 (sidx_of o' hi) (sidx_of o' hl)) (ne nd.2.1 (sidx_of o' hj) (sidx_of o' hl)) (lc_of o' l1) (lc_of o' l2) (lc_of o' l3) a1 (w _ _ _ _) (sole_of rfl)
            · cases h
          · cases h
        · cases h
      · cases h
    · cases h
  · split at h
    · rename_i k
      rw [Bool.and_eq_true] at k
      simp only [Option.bind_eq_bind, Option.bind_eq_some_iff, Option.some.injEq] at h
      obtain ⟨f0, hf, ⟨g, sl⟩, hg, rfl⟩ := h
      exact ss_asg (hs.e _ _ o' _ _ hf) (hs.g _ _ o' _ _ _ hg) (sole_of k.1) (swNo_ok (by rw [o'.sc]; exact k.2)) rfl
    · cases h
  · split at h
    · rename_i k
      rw [Bool.and_eq_true] at k
      simp only [Option.bind_eq_bind, Option.bind_eq_some_iff, Option.some.injEq] at h
      obtain ⟨v, hv, fa, ha, fb, hb, rfl⟩ := h
      refine ss_put (eD_ok hs o' hv) (hs.e _ _ o' _ _ ha) (hs.e _ _ o' _ _ hb) (sole_of k.1) (swNo_ok rfl) rfl ?_
      intro v
      rename_i a b pp e0 hn1 hn2
      cases e0 <;> first | rfl | cases k.2
    · cases h
  · split at h
    · rename_i k
      split at h
      · rename_i ix hix
        simp only [Option.bind_eq_bind, Option.bind_eq_some_iff, Option.some.injEq] at h
        obtain ⟨v, hv, fa, ha, rfl⟩ := h
        exact ss_fld o'.tok.gc (o'.tok.at_ _ _ hix) (newOr_ok hs o' hv) (hs.e _ _ o' _ _ ha) (swaps_of k)
      · cases h
    · cases h
  · cases h
def lookN (l : List (Nat × List Nat)) (k : Nat) : List Nat := match l with
  | [] => []
  | (j, v) :: r => if Nat.beq j k = true then v else lookN r k
def frzs : List Nat → CS → CS
  | [], f => f
  | i :: r, f => sFrz i (frzs r f)
theorem frzs_ok {f : CS} (h : SSs C X sts f) : ∀ l : List Nat, SSs C X sts (frzs l f)
  | [] => h
  | i :: r => sss_frz i (frzs_ok h r)
def stmLine : Stmt → Nat
  | .Return _ p => p.line
  | .Assign _ _ p => p.line
  | .For _ _ _ _ p => p.line
  | .Expr _ p => p.line
  | .If _ _ _ p => p.line
  | .While _ _ _ p => p.line
  | _ => 0
def stRaise (T : Tb) (r : Rc) (c : Cs) (x : Str) (es : List Expr) : Option CS := if isGlb (slook c.sc.names x) && !dbg x && decide (1 ≤ c.k) then (match slook T.nm x, es with
  | some (.X k), [.Constant (.str _) _ _] => some (sRaise k)
  | some (.XF k _), [a] => if notStar a = true then (eD T r c a).map (sRaiseF k) else none
  | _, _ => none) else none
theorem stRaise_ok (hs : Snd C T r) (o : XOk C T c X) {x : Str} {f : CS} {pos' : Pos} (h : stRaise T r c x es = some f) : SS C X (.Raise (some (.Call (.Name x p) es [] pos')) none pos) f := by
  unfold stRaise at h
  split at h
  · rename_i k
    simp only [Bool.and_eq_true, Bool.not_eq_true', decide_eq_true_eq] at k
    obtain ⟨⟨k1, k2⟩, k3⟩ := k
    split at h
    · rename_i hk
      cases h
      obtain ⟨q1, q2, q3⟩ := o.tok.nm _ _ hk
      exact ss_raise q1 q2 o.calm q3 (glb_of o k1) (dbg_1 k2)
    · rename_i hk
      split at h
      · rename_i hn
        simp only [Option.map_eq_some_iff] at h
        obtain ⟨g, hg, rfl⟩ := h
        obtain ⟨q1, q2, q3⟩ := o.tok.nm _ _ hk
        exact ss_raiseF q1 o.tok.top (o.room.mono k3) q2 o.calm q3 (eD_ok hs o hg) (glb_of o k1) (dbg_1 k2) (star_cons hn)
      · cases h
    · cases h
  · cases h
/-- a statement -/
def stS (T : Tb) (ma : List Str) (r : Rc) (rs : Rs) (c : Cs) (st : Stmt) : Option CS := match st with
  | .Pass _ => some sNil
  | .Break _ => some sBrk
  | .Continue _ => some sCnt
  | .Expr (.Constant (.str _) _ _) _ => some sNil
  | .Expr e _ => if notLc e = true then (r.e c e).map sExpr else none
  | .Return none _ => some sRetN
  | .Return (some e) _ => if c.rr = true then (newOr r c true e).map sRet else (eD T r c e).map sRet
  | .If t a b _ => do let ft ← r.t c t; let fa ← rs.b c a; let fb ← rs.b c b; some (sIf ft fa fb)
  | .For tg it body [] _ => if notSet it = true then do let fi ← r.i c tg it; let (g, _) ← r.g c tg; let fb ← rs.b c body; some (sFor fi g fb) else none
  | .While t body [] _ => do let ft ← r.t c t; let fb ← rs.b c body; some (sWhile WFUEL ft fb)
  | .Assign [tg] e _ => stAsg T ma r c tg e
  | .Raise (some (.Call (.Name x _) es [] _)) none _ => stRaise T r c x es
  | .Try body [.ExceptHandler (some (.Name x _)) (some n) [.Return (some E) _] _] [] [] _ => if isGlb (slook c.sc.names x) && !dbg x && isLc (slook c.sc.names n) then (match slook T.nm x, sidx c.N n with
    | some (.XF k f), some i => do let fb ← rs.b c body; let h ← trQ T c n f 6 E; some (sTryAs (fun d => T.sub d k) fb i h)
    | _, _ => none) else none
  | _ => none
theorem stS_ok (hs : Snd C T r) (hb : SndS C T rs) (o : XOkS C T c X) {f : CS} (h : stS T ma r rs c st = some f) : SS C X st f := by
  have o' := o.toXOk
  unfold stS at h
  split at h
  · cases h; exact ss_pass
  · cases h; exact ss_brk
  · cases h; exact ss_cnt
  · cases h; exact ss_doc
  · split at h
    · rename_i k
      simp only [Option.map_eq_some_iff] at h
      obtain ⟨g, hg, rfl⟩ := h
      exact ss_expr (hs.e _ _ o' _ _ hg) (swaps_of k)
    · cases h
  · cases h; exact ss_retN
  · split at h
    · simp only [Option.map_eq_some_iff] at h
      obtain ⟨g, hg, rfl⟩ := h
      exact ss_ret (newOr_ok hs o' hg)
    · simp only [Option.map_eq_some_iff] at h
      obtain ⟨g, hg, rfl⟩ := h
      exact ss_ret (eD_ok hs o' hg)
  · simp only [Option.bind_eq_bind, Option.bind_eq_some_iff, Option.some.injEq] at h
    obtain ⟨ft, ht, fa, ha, fb, hb', rfl⟩ := h
    exact ss_if (hs.t _ _ o' _ _ ht) (hb.b _ _ o _ _ ha) (hb.b _ _ o _ _ hb')
  · split at h
    · rename_i k
      simp only [Option.bind_eq_bind, Option.bind_eq_some_iff, Option.some.injEq] at h
      obtain ⟨fi, hi, ⟨g, sl⟩, hg, fb, hb', rfl⟩ := h
      exact ss_for o.hp o'.calm (hs.i _ _ o' _ _ _ hi) (hs.g _ _ o' _ _ _ hg) (hb.b _ _ o _ _ hb') (fold_of k)
    · cases h
  · simp only [Option.bind_eq_bind, Option.bind_eq_some_iff, Option.some.injEq] at h
    obtain ⟨ft, ht, fb, hb', rfl⟩ := h
    exact ss_while o.hp (hs.t _ _ o' _ _ ht) (hb.b _ _ o _ _ hb')
  · exact stAsg_ok hs o h
  · exact stRaise_ok hs o' h
  · split at h
    · rename_i k
      simp only [Bool.and_eq_true, Bool.not_eq_true'] at k
      obtain ⟨⟨k1, k2⟩, k3⟩ := k
      split at h
      · rename_i kk f0 i hk hi
        simp only [Option.bind_eq_bind, Option.bind_eq_some_iff, Option.some.injEq] at h
        obtain ⟨fb, hb', hh, hhh, rfl⟩ := h
        have q := o'.tok.nm _ _ hk
        refine ss_tryAs (f := f0) o.stk o.frm o'.nd (sidx_of o' hi) (lc_of o' k3) ⟨glb_of o' k1, dbg_1 k2, .inl q.2.2⟩ (fun d b e => o'.tok.sub _ _ _ e) (fun d e => (o'.tok.xsub _ _ _ hk d e).1) (fun pn xe po => ?_) (fun d aa oe dd pn y e z1 z2 => ?_)
        · exact hb.b c (X.tr pn xe) (XOkS.mk (X := X.tr pn xe) ⟨o'.N, o'.sc, o'.nd, o'.fn, o'.calm, o'.room, o'.tok⟩ po o.stk o.frm o.df o.knd) _ _ hb'
        · obtain ⟨_, t1, t2⟩ := o'.tok.xsub _ _ _ hk d e
          exact trQ_ok o' hi t1 t2 z1 z2 6 _ _ hhh
      · cases h
    · cases h
  · cases h
def stB (T : Tb) (ma : List Str) (r : Rc) (rs : Rs) (c : Cs) : List Stmt → Option CS
  | [] => some sNil
  | [st] => (stS T ma r rs c st).map (frzs (lookN c.fz (stmLine st)))
  | st :: s2 :: rest => do let a ← stS T ma r rs c st; let b ← stB T ma r rs c (s2 :: rest); some (frzs (lookN c.fz (stmLine st)) (sSeq a b))
theorem stB_ok (hs : Snd C T r) (hb : SndS C T rs) (o : XOkS C T c X) : ∀ {sts : List Stmt} {f : CS}, stB T ma r rs c sts = some f → SSs C X sts f
  | [], f, h => by cases h; exact sss_nil
  | [st], f, h => by
    unfold stB at h
    simp only [Option.map_eq_some_iff] at h
    obtain ⟨g, hg, rfl⟩ := h
    exact frzs_ok (sss_one (stS_ok hs hb o hg)) _
  | st :: s2 :: rest, f, h => by
    unfold stB at h
    simp only [Option.bind_eq_bind, Option.bind_eq_some_iff, Option.some.injEq] at h
    obtain ⟨a, ha, b, hb', rfl⟩ := h
    exact frzs_ok (sss_cons (stS_ok hs hb o ha) (stB_ok hs hb o hb')) _
def rsN (T : Tb) (ma : List Str) (r : Rc) : Nat → Rs
  | 0 => ⟨fun _ _ => none⟩
  | n + 1 => ⟨stB T ma r (rsN T ma r n)⟩
theorem rsN_ok (hs : Snd C T r) : ∀ n, SndS C T (rsN T ma r n)
  | 0 => ⟨fun _ _ _ _ _ h => by cases h⟩
  | n + 1 => ⟨fun _ _ o _ _ h => stB_ok hs (rsN_ok hs n) o h⟩
/-- the function of a def's body -/
def trB (T : Tb) (ma : List Str) (c : Cs) (body : List Stmt) : Option CS := (rsN T ma (rcN T 24) 8).b c body
theorem trB_ok (o : XOkS C T c X) {f : CS} (h : trB T ma c sts = some f) : SSs C X sts f := (rsN_ok (rcN_ok 24) 8).b _ _ o _ _ h
end
/-! ### a def -/
/-- the looks of FnScope -/
def fnsC (N ps : List Str) (sc : Scope) : Bool := (match sc.kind with | .function => true | _ => false) && !sc.isCoroutine && !sc.isGenerator && nodupB N && seqs (N.take ps.length) ps && (ps.all fun x => isLc (slook sc.names x) || isCell (slook sc.names x)) && (sc.names.all fun y => match y.2 with
    | .free => false
    | _ => true)
where seqs : List Str → List Str → Bool
  | [], [] => true
  | a :: as, b :: bs => seq a b && seqs as bs
  | _, _ => false
theorem seqs_ok : ∀ {a b : List Str}, fnsC.seqs a b = true → a = b
  | [], [], _ => rfl
  | a :: as, b :: bs, h => by
    unfold fnsC.seqs at h
    rw [Bool.and_eq_true] at h
    rw [seq_iff.mp h.1, seqs_ok h.2]
  | [], _ :: _, h => by cases h
  | _ :: _, [], h => by cases h
theorem fnsC_ok {N ps : List Str} {sc : Scope} (h : fnsC N ps sc = true) : FnScope N ps sc := by
  unfold fnsC at h
  simp only [Bool.and_eq_true, Bool.not_eq_true', List.all_eq_true] at h
  obtain ⟨⟨⟨⟨⟨⟨h1, h2⟩, h3⟩, h4⟩, h5⟩, h6⟩, h7⟩ := h
  refine ⟨?_, h2, h3, nodupB_ok h4, seqs_ok h5, fun x hx => ?_, fun y hy e => ?_⟩
  · split at h1
    · assumption
    · cases h1
  · have := h6 x hx
    rw [slook_eq]
    rw [Bool.or_eq_true] at this
    revert this
    cases slook sc.names x with
    | none => intro h; simp [isLc, isCell] at h
    | some k => cases k <;> intro h <;> simp_all [isLc, isCell]
  · have := h7 y hy
    rw [e] at this
    cases this
/-- the parameters are bound one by one -/
def bindC (a : Arguments) (ps : List Str) : Bool := a.posonlyargs.isEmpty && a.vararg.isNone && a.kwonlyargs.isEmpty && a.kw_defaults.isEmpty && a.kwarg.isNone && a.defaults.isEmpty && fnsC.seqs (a.args.map (·.arg)) ps
section
variable {P : Program} {w : World} {K : PySem.W.Frag} {mg : Str → Option Value} {base : Heap} {C : Cg} {T : Tb} {ma : List Str} {x qual : Str} {params : Arguments} {body : List Stmt} {scope : Scope} {fa : Addr} {fd : FuncData} {N ps : List Str} {k : Nat} {b : CS} {mu : List Nat} {fz : List (Nat × List Nat)} {rr : Bool}
theorem body_ok (t : TOk C P w K mg base T) (S : FnScope N ps scope) (h : trB T ma ⟨N, scope, true, k, mu, fz, rr⟩ body = some b) : Body P w K mg base C k N qual scope fa body b := by
  intro cdv A outer s H E hr
  refine trB_ok (X := cxOf (L2.CX P w) P w K mg base N qual scope fa cdv A outer s H E) ⟨⟨rfl, rfl, S.nd, fun _ _ => rfl, rfl, hr, t⟩, passes_of (K := fun e s'' => L2.CX P w outer H s E e s'') rfl, rfl, rfl, rfl, S.kind⟩ h
end
end Z
end

section
set_option Elab.async false
set_option linter.all false
set_option maxRecDepth 100000
set_option maxHeartbeats 4000000
/-! The head: what is known of the module's objects, by one look. -/
namespace Z
open PySem PySem.Spec PyProof.Rows L2
/-! ### constants -/
mutual
def gkB (K : PySem.W.Frag) : D → Value → Bool
  | .non, v => (match v with | .none => true | _ => false)
  | .bl b, v => (match v with | .bool c => b == c | _ => false)
  | .int i, v => (match v with | .int j _ => decide (i = j) | _ => false)
  | .str s, v => (match v with | .str y _ => neq y.cps.toList s && decide (s.length ≤ 16777216) | _ => false)
  | .tup xs, v => (match v with
    | .ref a => (match K.lookup a with
      | some o => (match o.cls, o.data with
        | .type n, .seq its _ => decide (n = "tuple") && (decide (its.size ≤ sizeLine) && gkBs K xs its.toList)
        | _, _ => false)
      | none => false)
    | _ => false)
  | _, _ => false
def gkBs (K : PySem.W.Frag) : List D → List Value → Bool
  | [], [] => true
  | x :: xs, v :: vs => gkB K x v && gkBs K xs vs
  | _, _ => false
end
mutual
theorem gkB_ok {K : PySem.W.Frag} {C : Cg} : ∀ (d : D) (u : Value), gkB K d u = true → ∃ v, RelV v u ∧ ∀ (Zf : Addr → Prop) (H : Hp), RD K C Zf H d v
  | .non, u, h => by
    unfold gkB at h
    cases u <;> first | (cases h; done) | exact ⟨.non, rfl, fun _ _ => rd_non⟩
  | .bl b, u, h => by
    unfold gkB at h
    cases u <;> first | (cases h; done) | skip
    rename_i c
    have : b = c := by simpa using h
    subst this
    exact ⟨.bl b, rfl, fun _ _ => rd_bl⟩
  | .int i, u, h => by
    unfold gkB at h
    cases u <;> first | (cases h; done) | skip
    rename_i j t
    have : i = j := of_decide_eq_true h
    subst this
    exact ⟨.int i, ⟨t, rfl⟩, fun _ _ => rd_int⟩
  | .str s, u, h => by
    unfold gkB at h
    cases u <;> first | (cases h; done) | skip
    rename_i y t
    have h : (neq y.cps.toList s && decide (s.length ≤ 16777216)) = true := h
    rw [Bool.and_eq_true, decide_eq_true_eq] at h
    have e : y = ⟨s.toArray⟩ := by
      rw [← neq_iff.mp h.1]
    refine ⟨vstr s, ⟨t, by rw [e]⟩, fun _ _ => rd_str h.2⟩
  | .tup xs, u, h => by
    unfold gkB at h
    cases u <;> first | (cases h; done) | skip
    rename_i a
    dsimp only at h
    cases q : K.lookup a with
    | none => rw [q] at h; cases h
    | some o =>
      rw [q] at h
      dsimp only at h
      split at h
      · rename_i n its k hc hd
        simp only [Bool.and_eq_true, decide_eq_true_eq] at h
        obtain ⟨h1, h2, h3⟩ := h
        obtain ⟨vs, r1, r2⟩ := gkBs_ok (C := C) xs its.toList h3
        refine ⟨.ref a, rfl, fun Zf H => ?_⟩
        simp only [RD]
        exact ⟨a, vs, rfl, .inr ⟨o, its, k, q, by rw [hc, h1], hd, h2, r1⟩, r2 Zf H⟩
      · cases h
  | .lst _, _, h => by unfold gkB at h; cases h
  | .lck _, _, h => by unfold gkB at h; cases h
  | .dic _ _, _, h => by unfold gkB at h; cases h
  | .obj _ _, _, h => by unfold gkB at h; cases h
theorem gkBs_ok {K : PySem.W.Frag} {C : Cg} : ∀ (ds : List D) (us : List Value), gkBs K ds us = true → ∃ vs, Vals vs us ∧ ∀ (Zf : Addr → Prop) (H : Hp), RDs K C Zf H ds vs
  | [], [], _ => ⟨[], .nil, fun _ _ => .nil⟩
  | x :: xs, v :: vs, h => by
    unfold gkBs at h
    rw [Bool.and_eq_true] at h
    obtain ⟨u, r1, r2⟩ := gkB_ok (C := C) x v h.1
    obtain ⟨us, s1, s2⟩ := gkBs_ok (C := C) xs vs h.2
    exact ⟨u :: us, .cons r1 s1, fun Zf H => .cons (r2 Zf H) (s2 Zf H)⟩
  | [], _ :: _, h => by unfold gkBs at h; cases h
  | _ :: _, [], h => by unfold gkBs at h; cases h
end
/-! ### super().__init__ -/
def plS : Sem Bool := do return (← (pure (some false) : Sem (Option Bool))).getD true
theorem sup_any (env : PySem.Env) (f : Str) (p0 p1 p2 p3 p4 p5 p6 p7 p8 p9 : Pos) (h : (p2.endLine == p4.line) = true) : SuP env f p0 p1 p2 p3 p4 p5 p6 p7 p8 p9 plS := by
  refine ⟨?_, rfl, rfl⟩
  have this : methodCallPos (methodCallForm ([Expr.Name f p3].length + ([] : List Keyword).length) (backTo p4 (starEach [Expr.Name f p3] env)) (backToKw p4 (keywordEach [] env))) ((Expr.Name (Str.ofString "super") p0).Call [] [] p1) env p2 p4 = pure p4 := by
    unfold methodCallPos
    rw [h]
    simp
  show (do
      let ov ← attributeBase ((Expr.Name (Str.ofString "super") p0).Call [] [] p1) (Str.ofString "__init__") env (eval ((Expr.Name (Str.ofString "super") p0).Call [] [] p1) env)
      standAt p2.atName
      let (f_1, first) ← holding [ov] (calleeOf (methodCallForm ([Expr.Name f p3].length + ([] : List Keyword).length) (backTo p4 (starEach [Expr.Name f p3] env)) (backToKw p4 (keywordEach [] env))) ((Expr.Name (Str.ofString "super") p0).Call [] [] p1) env ov (Str.ofString "__init__"))
      let callPos ← methodCallPos (methodCallForm ([Expr.Name f p3].length + ([] : List Keyword).length) (backTo p4 (starEach [Expr.Name f p3] env)) (backToKw p4 (keywordEach [] env))) ((Expr.Name (Str.ofString "super") p0).Call [] [] p1) env p2 p4
      callWith callPos f_1 first (backTo p4 (starEach [Expr.Name f p3] env)) (backToKw p4 (keywordEach [] env))) = _
  rw [this]
  rfl
/-- an own exception with a field: its class's name, number, field, its init as it stands, its base -/
structure SuD where
  cls : Str
  c : Nat
  f : Str
  st : Stmt
  B : String
  bm : List Value
abbrev SuW : Type := Option (Arguments × FuncBody × Scope × Addr × List Str × Addr × Value)
def suW (K : PySem.W.Frag) (d : SuD) : SuW := match K.lookup (He.ma K (He.ga K d.cls) "__init__") with
  | some ⟨_, _, .func fd, _⟩ => some (fd.params, fd.body, fd.scope, fd.globals, fd.closure.map (·.1), fd.builtins, fd.defaults)
  | _ => none
def SuD.val (d : SuD) : SuW := some (defArgs d.st, .stmts (defBody d.st), defScope d.st, mainGlobals, ["__class__"], builtinsNs, .none)
/-- the looks -/
def suB (main : Str) (K : PySem.W.Frag) (d : SuD) : Bool :=
  let C := He.ga K d.cls
  let fI := He.ma K C "__init__"
  PySem.W.excInitIn K C d.bm (d.B ++ ".__new__") && (PySem.W.excOver K C d.bm && (PySem.W.keepIn K (.ref C) && (decide (PySem.W.subIn K (.ref C) (.type "BaseException") = some true) && (decide (PySem.W.typeIn K (.ref C) = some (.type "type")) && (decide (PySem.W.subIn K (.ref C) (.type d.B) = some true) &&
  (decide (PySem.W.mroIn K C (.ref C) = some true) && (He.eqO (PySem.W.ks_superIn K C C "__init__") (some (some (.builtin (d.B ++ ".__init__")))) && (He.eqO (PySem.W.nsIn K mainGlobals "super") (some none) && (He.eqO (PySem.W.nsIn K cStatics "thirdparty.any") (some none) && (He.eqO (PySem.W.findIn K (.ref C) "__setattr__") (some (some (.builtin "object.__setattr__"))) &&
  (He.eqO (PySem.W.takerIn K C d.f) (some none) && (PySem.W.hasDictIn K C && (He.eqO (PySem.W.findIn K (.ref C) "__init__") (some (some (.ref fI))) && (PySem.W.isFn K (.ref fI) && (match K.lookup fI with
    | some ⟨_, _, .func fd, _⟩ => PySem.W.codeIn K fd.code fd.qualname && ((match fd.code with
        | .ref cda => (match K.lookup cda with
          | some ⟨_, _, .fields vs, _⟩ => (match (vs[2]? : Option Value) with
            | some (.str file _) => main == file
            | _ => false)
          | _ => false)
        | _ => false) && ((match fd.closure with
        | [(_, cc)] => (match K.lookup cc with
          | some ⟨_, _, .cell (some (.ref C')), _⟩ => C' == C
          | _ => false)
        | _ => false) && (PySem.W.clsIn K C).isSome))
    | _ => false)))))))))))))))
def suShape (f : Str) : List Stmt → Bool
  | [.Expr (.Call (.Attribute (.Call (.Name s _) [] [] _) i p2) [.Name f1 _] [] p4) _, .Assign [.Attribute (.Name z _) f2 _] (.Name f3 _) _] => seq s n_super && (seq i n_init && (seq f1 f && (seq f2 f && (seq f3 f && (seq z n_self && (p2.endLine == p4.line))))))
  | _ => false
theorem suShape_ok {f : Str} {sts : List Stmt} (h : suShape f sts = true) : ∃ p0 p1 p2 p3 p4 p5 p6 p7 p8 p9, sts = suBody f p0 p1 p2 p3 p4 p5 p6 p7 p8 p9 ∧ (p2.endLine == p4.line) = true := by
  unfold suShape at h
  split at h
  · simp only [Bool.and_eq_true] at h
    obtain ⟨h1, h2, h3, h4, h5, h6, h7⟩ := h
    rw [seq_iff.mp h1, seq_iff.mp h2, seq_iff.mp h3, seq_iff.mp h4, seq_iff.mp h5, seq_iff.mp h6, n_super_eq, n_init_eq, n_self_eq]
    exact ⟨_, _, _, _, _, _, _, _, _, _, rfl, h7⟩
  · cases h
/-- the init's scope -/
def suScB (f : Str) (sc : Scope) : Bool := (match sc.kind with | .function => true | _ => false) && (!sc.isCoroutine && (!sc.isGenerator && ((sc.names.all fun y => match y.2 with | .cell => false | _ => true) && (isGlb (slook sc.names n_super) && ((match slook sc.names n_class with | some .free => true | _ => false) && (isLc (slook sc.names n_self) && (isLc (slook sc.names f) && (!seq f n_self && !dbg f))))))))
theorem glb_look {sc : Scope} {x : Str} (h : isGlb (slook sc.names x) = true) : sc.names.lookup x = some .globalImplicit := by
  rw [slook_eq]
  revert h
  cases slook sc.names x with
  | none => intro h; cases h
  | some k => cases k <;> intro h <;> simp_all [isGlb]
theorem lc_look {sc : Scope} {x : Str} (h : isLc (slook sc.names x) = true) : sc.names.lookup x = some .local := by
  rw [slook_eq]
  revert h
  cases slook sc.names x with
  | none => intro h; cases h
  | some k => cases k <;> intro h <;> simp_all [isLc]
theorem suC_of {K : PySem.W.Frag} {main : Str} {d : SuD} (e : suW K d = d.val) (b : suB main K d = true) (base : ExcBaseFacts d.B (d.B ++ ".__new__") (d.B ++ ".__init__") d.bm) (store : StoreFacts d.B d.bm "object.__setattr__" "object") (kx : PySem.W.KxsFacts d.B (d.B ++ ".__init__"))
    (hb : suShape d.f (defBody d.st) = true) (hs : suScB d.f (defScope d.st) = true) (ha : ∃ ar, ((defArgs d.st).posonlyargs ++ (defArgs d.st).args).head? = some ar ∧ ar.arg = ("self" : Str))
    (hbind : ∀ (name qual : Str) (kV doc pm : Value) (an : Option Addr) (cda : Addr) (ct : Value) (cc : Addr) (u v : Value), bindArgs (PySem.W.ksFn name qual (defArgs d.st) (defBody d.st) (defScope d.st) .none kV doc pm an (.ref cda) ct cc) ⟨[u, v], []⟩ = pure [(("self" : Str), u), (d.f, v)]) :
    SuC K main (He.ga K d.cls) d.f d.B (d.B ++ ".__new__") (d.B ++ ".__init__") d.bm := by
  unfold suB at b
  dsimp only at b
  simp only [Bool.and_eq_true, decide_eq_true_eq] at b
  obtain ⟨b1, b2, b3, b4, b5, b6, b7, b8, b9, b10, b11, b12, b13, b14, b15, b16⟩ := b
  unfold suScB at hs
  simp only [Bool.and_eq_true, Bool.not_eq_true'] at hs
  obtain ⟨s1, s2, s3, s4, s5, s6, s7, s8, s9, s10⟩ := hs
  obtain ⟨p0, p1, p2, p3, p4, p5, p6, p7, p8, p9, hsb, hl⟩ := suShape_ok hb
  obtain ⟨ar, ha1, ha2⟩ := ha
  refine ⟨base, store, kx, b1, b2, b3, b4, b5, b6, b7, He.eqO_ok b8, He.eqO_ok b9, He.eqO_ok b10, He.eqO_ok b11, He.eqO_ok b12, b13, ?_, by rw [← n_self_eq]; exact seq_ne' s9, dbg_1 s10⟩
  unfold suW at e
  cases q : K.lookup (He.ma K (He.ga K d.cls) "__init__") with
  | none => rw [q] at b16; cases b16
  | some o =>
    obtain ⟨oc, od, dt, osl⟩ := o
    rw [q] at b16 e
    cases dt with
    | func fd =>
      obtain ⟨n1, n2, n3, n4, n5, n6, n7, n8, n9, n10, n11, n12, n13, n14, n15⟩ := fd
      dsimp only at b16 e
      unfold SuD.val at e
      simp only [Option.some.injEq, Prod.mk.injEq] at e
      obtain ⟨e1, e2, e3, e4, e5, e6, e7⟩ := e
      subst e1 e2 e3 e4 e6 e7
      simp only [Bool.and_eq_true] at b16
      obtain ⟨c1, c2, c3, c4⟩ := b16
      cases n13 with
      | ref cda =>
        dsimp only at c2
        cases q2 : K.lookup cda with
        | none => rw [q2] at c2; cases c2
        | some o2 =>
          obtain ⟨ccl, cdd, dt2, ccs⟩ := o2
          rw [q2] at c2
          cases dt2 with
          | fields vs =>
            dsimp only at c2
            split at c2
            · rename_i file tf hvs
              split at c3
              · rename_i cn cc
                split at c3
                · rename_i cl cld C' csl q3
                  obtain ⟨cdC, hcd⟩ := Option.isSome_iff_exists.mp c4
                  have hC : C' = He.ga K d.cls := by simpa using c3
                  subst hC
                  have hcn : cn = ("__class__" : Str) := by simpa using e5
                  subst hcn
                  refine ⟨_, cc, cda, n1, n2, defArgs d.st, p0, p1, p2, p3, p4, p5, p6, p7, p8, p9, defScope d.st, .none, n9, n10, n11, n12, n14, oc, ccl, cl, od, cdd, cld, osl, ccs, csl, vs, file, tf, ar, cdC, plS, He.eqO_ok b14, b15, ?_, c1, q2, hvs, c2, q3, hcd, fun u v => ?_, ha1, ha2, ?_, s2, s3, fun x hx e => ?_, ?_, ?_, ?_, lc_look s8, fun L => sup_any _ _ _ _ _ _ _ _ _ _ _ _ hl⟩
                  · rw [q, ← hsb]
                  · rw [← hsb]; exact hbind _ _ _ _ _ _ _ _ _ _ _
                  · split at s1
                    · assumption
                    · cases s1
                  · have := List.all_eq_true.mp s4 x hx
                    rw [e] at this
                    cases this
                  · rw [← n_super_eq]; exact glb_look s5
                  · rw [← n_class_eq, slook_eq]
                    revert s6
                    cases slook (defScope d.st).names n_class with
                    | none => intro h; cases h
                    | some k => cases k <;> intro h <;> first | rfl | cases h
                  · rw [← n_self_eq]; exact lc_look s7
                · cases c3
              · cases c3
            · cases c2
          | _ => cases c2
      | _ => cases c2
    | _ => cases b16
end Z
end

section
set_option Elab.async false
set_option linter.all false
set_option maxRecDepth 100000
set_option maxHeartbeats 4000000
/-! The head: one Bool, one Hook, the tables. -/
namespace Z
open PySem PySem.Spec PyProof.Rows L2
theorem ixOf_mem : ∀ {l : List (Nat × Nat)} {c i : Nat}, ixOf l c = some i → (c, i) ∈ l
  | [], _, _, h => by cases h
  | (a, b) :: r, c, i, h => by
    unfold ixOf at h
    split at h
    · rename_i q
      cases h
      rw [Nat.eq_of_beq_eq_true q]
      exact List.mem_cons_self
    · exact List.mem_cons_of_mem _ (ixOf_mem h)
theorem subOf_mem : ∀ {l : List (Nat × Nat × Bool)} {c d : Nat} {v : Bool}, subOf l c d = some v → (c, d, v) ∈ l
  | [], _, _, _, h => by cases h
  | (a, b, v) :: r, c, d, w, h => by
    unfold subOf at h
    split at h
    · rename_i q
      rw [Bool.and_eq_true] at q
      cases h
      rw [Nat.eq_of_beq_eq_true q.1, Nat.eq_of_beq_eq_true q.2]
      exact List.mem_cons_self
    · exact List.mem_cons_of_mem _ (subOf_mem h)
/-- a law's module: its classes' names by number, those with instances, exceptions' fields, constants and exceptions, slots, built-in names, who catches whom -/
structure Lw where
  names : List Str
  kn : List Nat
  xf : List (Nat × Str)
  nm : List (Str × FI)
  at_ : List (Str × List (Nat × Nat))
  bi : List Str
  subs : List (Nat × Nat × Bool)
def xfOf : List (Nat × Str) → Nat → Option Str
  | [], _ => none
  | (a, b) :: r, c => if Nat.beq a c = true then some b else xfOf r c
def Lw.tb (L : Lw) : Tb := ⟨L.nm, L.at_.map fun p => (p.1, ixOf p.2), [], L.bi, subOf L.subs⟩
def Lw.cg (L : Lw) (K : PySem.W.Frag) : Cg := ⟨fun c => He.ga K (L.names.getD c ⟨#[63]⟩), xfOf L.xf, fun c => L.kn.any fun d => Nat.beq d c⟩
def clsB (K : PySem.W.Frag) (C : Addr) : Bool := PySem.W.plainGet K C Str.empty && (PySem.W.isClsIn K C && (PySem.W.plainOver K C && (He.eqO (PySem.W.findIn K (.ref C) "__setattr__") (some (some (.builtin "object.__setattr__"))) &&
  (He.eqO (PySem.W.findIn K (.ref C) "__class__") (some (some (.builtin "object.__class__"))) && (He.eqO (PySem.W.specialIn K (.builtin "object.__class__") "__get__") (some (some (.builtin "getset_descriptor.__get__"))) && (decide (PySem.W.takesIn K (.builtin "object.__class__") = some true) && decide (PySem.W.mroIn K C (.type "object") = some true)))))))
def slotB (K : PySem.W.Frag) (C : Addr) (f : Str) (i : Nat) : Bool := match PySem.W.findIn K (.ref C) f with
  | some (some (.ref p)) => He.eqO (PySem.W.specialIn K (.ref p) "__get__") (some (some (.builtin "member_descriptor.__get__"))) && (decide (PySem.W.takesIn K (.ref p) = some true) && (decide (PySem.W.typeIn K (.ref p) = some (.type "member_descriptor")) && (decide (PySem.W.slotIn K p C = some i) && decide (i < 1000))))
  | _ => false
def eokB (K : PySem.W.Frag) (L : Lw) (x : Str) : FI → Bool
  | .K d => (match PySem.W.nsIn K mainGlobals x with
    | some (some u) => gkB K d u
    | _ => false)
  | .X c => (He.Fa.exc x).ok K && (seq (L.names.getD c ⟨#[63]⟩) x && ((xfOf L.xf c).isNone && (He.Fa.glo x).ok K))
  | .XF c f => seq (L.names.getD c ⟨#[63]⟩) x && ((match xfOf L.xf c with
    | some g => seq g f
    | none => false) && (He.Fa.glo x).ok K)
  | _ => false
def tyNames : List String := ["int", "str", "bool", "tuple", "list", "dict"]
def tyNames2 : List String := ["NoneType", "bool", "int", "str", "tuple", "list", "dict"]
def exB (K : PySem.W.Frag) (L : Lw) : Bool :=
  (L.kn.all fun c => clsB K ((L.cg K).cl c) && ((tyNames.all fun n => decide (PySem.W.kitOne K (.ref ((L.cg K).cl c)) (.type n) = some false)) && ((tyNames2.all fun n => decide (PySem.W.kitOne K (.type n) (.ref ((L.cg K).cl c)) = some false)) && ((L.kn.all fun d => decide (PySem.W.kitOne K (.ref ((L.cg K).cl d)) (.ref ((L.cg K).cl c)) = some (c == d))) && ((He.Fa.mkr (L.names.getD c ⟨#[63]⟩)).ok K && (He.Fa.glo (L.names.getD c ⟨#[63]⟩)).ok K))))) &&
  ((L.at_.all fun p => p.2.all fun q => slotB K ((L.cg K).cl q.1) p.1 q.2) && ((L.nm.all fun p => eokB K L p.1 p.2) && ((L.bi.all fun x => He.eqO (PySem.W.nsIn K mainGlobals x) (some none)) &&
  (L.subs.all fun q => decide (PySem.W.exmOne K (.ref ((L.cg K).cl q.1)) (.ref ((L.cg K).cl q.2.1)) = some q.2.2) && (!q.2.2 || (match xfOf L.xf q.2.1 with
    | some f => (match xfOf L.xf q.1 with
      | some g => seq g f
      | none => false) && (xfB K ((L.cg K).cl q.1) && He.eqO (PySem.W.findIn K (.ref ((L.cg K).cl q.1)) f) (some none))
    | none => true))))))
section
variable {K : PySem.W.Frag} {C : Cg} {L : Lw} {h : Heap} {mg : Str → Option Value} {P : Program} {w : World} {base : Heap}
theorem isf_ty {n : String} {t : Ty} (ht : ∀ c x, isInst t (.obj c x) = some false) (hn : ∀ x b, isInst t x = some b → (match x with
    | .non => PySem.W.kitOne K (.type "NoneType") (.type n) = some b
    | .bl _ => PySem.W.kitOne K (.type "bool") (.type n) = some b
    | .int _ => PySem.W.kitOne K (.type "int") (.type n) = some b
    | .str _ => PySem.W.kitOne K (.type "str") (.type n) = some b
    | .tup _ => PySem.W.kitOne K (.type "tuple") (.type n) = some b
    | .lst _ => PySem.W.kitOne K (.type "list") (.type n) = some b
    | .dic _ _ => PySem.W.kitOne K (.type "dict") (.type n) = some b
    | _ => True)) (h : ∀ c, C.kn c = true → PySem.W.kitOne K (.ref (C.cl c)) (.type n) = some false) : IsF K C t (.type n) where
  non := fun b e => hn _ _ e
  bl := fun x b e => hn (.bl x) b e
  int := fun x b e => hn (.int x) b e
  str := fun x b e => hn (.str x) b e
  tup := fun x b e => hn (.tup x) b e
  lst := fun x b e => hn (.lst x) b e
  dic := fun x y b e => hn (.dic x y) b e
  obj := fun c x b hk e => by
    rw [ht] at e
    cases e
    exact h c hk
theorem kn_mem {c : Nat} (hc : (L.cg K).kn c = true) : c ∈ L.kn := by
  obtain ⟨d, hd, e⟩ := List.any_eq_true.mp (show (L.kn.any fun d => Nat.beq d c) = true from hc)
  rw [← Nat.eq_of_beq_eq_true e]
  exact hd
/-- the tables at the module's end -/
theorem tok0 (KX : K.In h) (G : h.Ns mainGlobals mg) (e : exB K L = true) (htop : (P.main.scope.names.lookup ("super" : Str)).isSome = false) (hsu : ∀ x c f, slook L.nm x = some (.XF c f) → ∃ B newId initId bm, SuC K P.main.file ((L.cg K).cl c) f B newId initId bm) :
    TOk (L.cg K) P w K mg base L.tb := by
  unfold exB at e
  simp only [Bool.and_eq_true] at e
  obtain ⟨e1, e2, e3, e4, e5⟩ := e
  have kk : ∀ c, (L.cg K).kn c = true → _ := fun c hc => List.all_eq_true.mp e1 c (kn_mem hc)
  have kty : ∀ (n : String), n ∈ tyNames → ∀ c, (L.cg K).kn c = true → PySem.W.kitOne K (.ref ((L.cg K).cl c)) (.type n) = some false := fun n hn c hc => by
    have q := kk c hc
    simp only [Bool.and_eq_true] at q
    exact of_decide_eq_true (List.all_eq_true.mp q.2.1 n hn)
  have hmg : ∀ x, He.Fa.ok K (.glo x) = true → mg x = some (.ref (He.ga K x)) := fun x hx => He.glo_ok KX G hx
  refine ⟨fun c hc => ?_, htop, fun x i hx => ?_, fun x ix hx c i hi => ?_, fun x l h hx => (by cases hx), fun x hx => ?_, fun _ => isf_ty (fun _ _ => rfl) (fun x b e => ?_) (kty "int" (by simp [tyNames])), fun _ => isf_ty (fun _ _ => rfl) (fun x b e => ?_) (kty "str" (by simp [tyNames])), fun _ => isf_ty (fun _ _ => rfl) (fun x b e => ?_) (kty "bool" (by simp [tyNames])), fun _ => isf_ty (fun _ _ => rfl) (fun x b e => ?_) (kty "tuple" (by simp [tyNames])), fun _ => isf_ty (fun _ _ => rfl) (fun x b e => ?_) (kty "list" (by simp [tyNames])), fun _ => isf_ty (fun _ _ => rfl) (fun x b e => ?_) (kty "dict" (by simp [tyNames])), fun c d b hb => ?_, fun x c f hx d hd => ?_⟩
  · have q := kk c hc
    simp only [Bool.and_eq_true] at q
    obtain ⟨q, _⟩ := q
    unfold clsB at q
    simp only [Bool.and_eq_true, decide_eq_true_eq] at q
    obtain ⟨q1, q2, q3, q4, q5, q6, q7, q8⟩ := q
    exact ⟨⟨q1, q2, q3, He.eqO_ok q4⟩, ⟨He.eqO_ok q5, He.eqO_ok q6, q7, q8⟩⟩
  · have q := List.all_eq_true.mp e3 _ (slook_mem hx)
    dsimp only at q
    cases i with
    | K d =>
      unfold eokB at q
      dsimp only at q
      split at q
      · rename_i u hu
        obtain ⟨v, r1, r2⟩ := gkB_ok (C := L.cg K) d u q
        exact ⟨u, v, PySem.W.mg_of KX G hu, r1, r2⟩
      · cases q
    | X c =>
      unfold eokB at q
      simp only [Bool.and_eq_true] at q
      obtain ⟨q1, q2, q3, q4⟩ := q
      have hc : (L.cg K).cl c = He.ga K x := by
        show He.ga K (L.names.getD c ⟨#[63]⟩) = _
        rw [seq_iff.mp q2]
      obtain ⟨k1, k2, k3, k4⟩ := He.exc_ok q1
      refine ⟨?_, ?_, ?_⟩
      · rw [hc]
        exact ⟨⟨_, _, _, _, PySem.F.excBase_ValueError, k1⟩, k2, k3, k4⟩
      · show xfOf L.xf c = none
        cases z : xfOf L.xf c with
        | none => rfl
        | some _ => rw [z] at q3; cases q3
      · rw [hc]
        exact hmg x q4
    | XF c f =>
      unfold eokB at q
      simp only [Bool.and_eq_true] at q
      obtain ⟨q2, q3, q4⟩ := q
      have hc : (L.cg K).cl c = He.ga K x := by
        show He.ga K (L.names.getD c ⟨#[63]⟩) = _
        rw [seq_iff.mp q2]
      refine ⟨hsu x c f hx, ?_, ?_⟩
      · show xfOf L.xf c = some f
        split at q3
        · rename_i g hg
          rw [hg, seq_iff.mp q3]
        · cases q3
      · rw [hc]
        exact hmg x q4
    | P n l f => cases q
    | I n l f => cases q
    | M c n l fz f => cases q
  · have hx : slook (L.at_.map fun p => (p.1, ixOf p.2)) x = some ix := hx
    obtain ⟨p, hp, hpe⟩ := List.mem_map.mp (slook_mem hx)
    cases hpe
    have q := List.all_eq_true.mp (List.all_eq_true.mp e2 p hp) (c, i) (ixOf_mem hi)
    unfold slotB at q
    dsimp only at q
    split at q
    · rename_i a ha
      simp only [Bool.and_eq_true, decide_eq_true_eq] at q
      obtain ⟨q1, q2, q3, q4, q5⟩ := q
      exact ⟨a, ha, He.eqO_ok q1, q2, q3, q4, q5⟩
    · cases q
  · have q := List.all_eq_true.mp e4 x (smem_mem hx)
    exact PySem.W.mg_none_of KX G (He.eqO_ok q)
  · cases x <;> first | trivial | (cases e; with_unfolding_all rfl)
  · cases x <;> first | trivial | (cases e; with_unfolding_all rfl)
  · cases x <;> first | trivial | (cases e; with_unfolding_all rfl)
  · cases x <;> first | trivial | (cases e; with_unfolding_all rfl)
  · cases x <;> first | trivial | (cases e; with_unfolding_all rfl)
  · cases x <;> first | trivial | (cases e; with_unfolding_all rfl)
  · have q := List.all_eq_true.mp e5 _ (subOf_mem hb)
    simp only [Bool.and_eq_true, decide_eq_true_eq] at q
    exact q.1
  · have q := List.all_eq_true.mp e5 _ (subOf_mem hd)
    simp only [Bool.and_eq_true, decide_eq_true_eq] at q
    obtain ⟨_, q⟩ := q
    have z := List.all_eq_true.mp e3 _ (slook_mem (show slook L.nm x = some (.XF c f) from hx))
    dsimp only at z
    unfold eokB at z
    simp only [Bool.and_eq_true] at z
    obtain ⟨_, z2, _⟩ := z
    cases zf : xfOf L.xf c with
    | none => rw [zf] at z2; cases z2
    | some g =>
      rw [zf] at z2 q
      have eg : g = f := seq_iff.mp z2
      subst eg
      simp only [Bool.not_true, Bool.false_or, Bool.and_eq_true] at q
      obtain ⟨q1, q2, q3⟩ := q
      refine ⟨?_, xfB_ok q2, He.eqO_ok q3⟩
      show xfOf L.xf d = some g
      split at q1
      · rename_i g' hg
        rw [hg, seq_iff.mp q1]
      · cases q1
/-- a class with instances -/
theorem mk_of (KX : K.In h) (G : h.Ns mainGlobals mg) (e : exB K L = true) {c : Nat} (hc : c ∈ L.kn) : (L.cg K).kn c = true ∧ IsF K (L.cg K) (.own c) (.ref ((L.cg K).cl c)) ∧ mg (L.names.getD c ⟨#[63]⟩) = some (.ref ((L.cg K).cl c)) ∧ Mk K ((L.cg K).cl c) (He.ma K (He.ga K (L.names.getD c ⟨#[63]⟩)) "__init__") := by
  unfold exB at e
  simp only [Bool.and_eq_true] at e
  have q := List.all_eq_true.mp e.1 c hc
  simp only [Bool.and_eq_true] at q
  obtain ⟨_, _, q3, q4, q5, q6⟩ := q
  have kt : ∀ n, n ∈ tyNames2 → PySem.W.kitOne K (.type n) (.ref ((L.cg K).cl c)) = some false := fun n hn => of_decide_eq_true (List.all_eq_true.mp q3 n hn)
  refine ⟨List.any_eq_true.mpr ⟨c, hc, Nat.beq_refl c⟩, ⟨fun b e => ?_, fun x b e => ?_, fun x b e => ?_, fun x b e => ?_, fun x b e => ?_, fun x b e => ?_, fun x y b e => ?_, fun d x b hk e => ?_⟩, He.glo_ok KX G q6, He.mkr_ok q5⟩
  · cases e; exact kt _ (by simp [tyNames2])
  · cases e; exact kt _ (by simp [tyNames2])
  · cases e; exact kt _ (by simp [tyNames2])
  · cases e; exact kt _ (by simp [tyNames2])
  · cases e; exact kt _ (by simp [tyNames2])
  · cases e; exact kt _ (by simp [tyNames2])
  · cases e; exact kt _ (by simp [tyNames2])
  · cases e
    exact of_decide_eq_true (List.all_eq_true.mp q4 d (kn_mem hk))
end
/-! ### one name more -/
theorem TOk.add {C : Cg} {P : Program} {w : World} {K : PySem.W.Frag} {mg : Str → Option Value} {base : Heap} {T : Tb} (t : TOk C P w K mg base T) {x : Str} {i : FI} (h : EOk C P w K mg base x i) (hx : match i with | .XF _ _ => False | _ => True) : TOk C P w K mg base { T with nm := (x, i) :: T.nm } where
  gc := t.gc
  top := t.top
  nm := fun y j hj => by
    have hj : (if seq y x = true then some i else slook T.nm y) = some j := hj
    split at hj
    · rename_i q
      cases hj
      rw [seq_iff.mp q]
      exact h
    · exact t.nm y j hj
  at_ := t.at_
  pr := t.pr
  bi := t.bi
  ty := t.ty
  ty2 := t.ty2
  ty3 := t.ty3
  ty4 := t.ty4
  ty5 := t.ty5
  ty6 := t.ty6
  sub := t.sub
  xsub := fun y c f hj => by
    have hj : (if seq y x = true then some i else slook T.nm y) = some (.XF c f) := hj
    split at hj
    · cases hj
      exact hx.elim
    · exact t.xsub y c f hj
section
variable {P : Program} {w : World} {K : PySem.W.Frag} {mg : Str → Option Value} {base : Heap} {C : Cg} {T : Tb} {ma : List Str} {x qual : Str} {params : Arguments} {body : List Stmt} {scope : Scope} {fa : Addr} {fd : FuncData} {N ps : List Str} {k n l : Nat} {b : CS} {mu : List Nat} {fz : List (Nat × List Nat)} {rr : Bool}
/-- a def joins the tables -/
theorem addP (t : TOk C P w K mg base T) (F : FunD K x x params body scope [] [] fa fd) (hm : mg x = some (.ref fa)) (tr : trB T ma ⟨N, scope, true, k, mu, fz, rr⟩ body = some b) (hs : fnsC N ps scope = true)
    (hb : ∀ (kV doc pm : Value) (an : Option Addr) (cdv ct : Value) (us : List Value), us.length = ps.length → bindArgs (PySem.W.fnOf x x params body scope .none kV doc pm an cdv ct) ⟨us, []⟩ = pure (ps.zip us)) (hn : N.length = n) (hl : ps.length = l) :
    TOk C P w K mg base { T with nm := (x, .P l (k + 1) (runP b n l)) :: T.nm } := by
  subst hn hl
  exact t.add ⟨⟨fa, fd, ps, hm, F.kp, F.bindsN hb, ok_P F (fnsC_ok hs) (body_ok t (fnsC_ok hs) tr)⟩, ask_P⟩ trivial
theorem addI (t : TOk C P w K mg base T) (F : FunD K x x params body scope [] [] fa fd) (hm : mg x = some (.ref fa)) (tr : trB T ma ⟨N, scope, true, k, mu, fz, rr⟩ body = some b) (hs : fnsC N ps scope = true)
    (hb : ∀ (kV doc pm : Value) (an : Option Addr) (cdv ct : Value) (us : List Value), us.length = ps.length → bindArgs (PySem.W.fnOf x x params body scope .none kV doc pm an cdv ct) ⟨us, []⟩ = pure (ps.zip us)) (hn : N.length = n) (hl : ps.length = l) :
    TOk C P w K mg base { T with nm := (x, .I l (k + 1) (runI b n l)) :: T.nm } := by
  subst hn hl
  exact t.add ⟨⟨fa, fd, ps, hm, F.kp, F.bindsN hb, ok_I F (fnsC_ok hs) (body_ok t (fnsC_ok hs) tr)⟩, ask_I⟩ trivial
/-- a class joins them, by its init -/
theorem addM {L : Lw} {h : Heap} {c : Nat} {fz0 : Bool} {y : Str} (KX : K.In h) (G : h.Ns mainGlobals mg) (e : exB K L = true) (hc : L.kn.any (Nat.beq c) = true) (hy : L.names.getD c ⟨#[63]⟩ = y) (t : TOk (L.cg K) P w K mg base T) (F : FunD K x qual params body scope [] [] (He.ma K (He.ga K y) "__init__") fd) (tr : trB T ma ⟨N, scope, true, k, mu, fz, rr⟩ body = some b) (hs : fnsC N ps scope = true)
    (hb : ∀ (kV doc pm : Value) (an : Option Addr) (cdv ct : Value) (us : List Value), us.length = ps.length → bindArgs (PySem.W.fnOf x qual params body scope .none kV doc pm an cdv ct) ⟨us, []⟩ = pure (ps.zip us)) (hn : N.length = n) (hl : ps.length = l) :
    TOk (L.cg K) P w K mg base { T with nm := (y, .M c l (k + 1) fz0 (runI b n l)) :: T.nm } := by
  subst hn hl hy
  have hc : c ∈ L.kn := by
    obtain ⟨d, hd, q⟩ := List.any_eq_true.mp hc
    rw [Nat.eq_of_beq_eq_true q]
    exact hd
  obtain ⟨m1, m2, m3, m4⟩ := mk_of KX G e hc
  exact t.add ⟨⟨_, fd, ps, m3, m4, F.bindsN hb, ok_I F (fnsC_ok hs) (body_ok t (fnsC_ok hs) tr)⟩, ask_I, m1, m2, m3⟩ trivial
end
/-! ### the Hook -/
abbrev AlZ : Type := (Bool × List He.FnW) × List SuW
def obsZ (n : Nat) (L : Lw) (main : Str) (fn : List He.DefD) (su : List SuD) (g : Addr → Option Obj) : AlZ :=
  let K := He.frT g (cStatics :: He.asD g n)
  ((exB K L && ((fn.all fun d => d.ok K) && ((su.all fun d => suB main K d) && fn.all fun d => match d.at_.2 with
    | none => (He.Fa.glo d.at_.1).ok K
    | some _ => true)), fn.map fun d => He.fnW K d.at_), su.map fun d => suW K d)
def valZ (fn : List He.DefD) (su : List SuD) : AlZ := ((true, fn.map He.DefD.val), su.map SuD.val)
structure SaysZ (L : Lw) (main : Str) (fn : List He.DefD) (su : List SuD) (K : PySem.W.Frag) : Prop where
  ex : exB K L = true
  def_ : ∀ d ∈ fn, ∃ fd, FunD K d.name d.qual d.params d.body d.scope (d.dvs K) (d.kws K) (He.fAd K d.at_) fd
  su : ∀ d ∈ su, suW K d = d.val ∧ suB main K d = true
  glo : ∀ d ∈ fn, d.at_.2 = none → (He.Fa.glo d.at_.1).ok K = true
theorem map_eq {α β : Type} {f g : α → β} : ∀ {l : List α}, l.map f = l.map g → ∀ d ∈ l, f d = g d
  | [], _, _, h => by cases h
  | a :: l, e, d, h => by
    simp only [List.map_cons, List.cons.injEq] at e
    rcases List.mem_cons.mp h with rfl | h
    · exact e.1
    · exact map_eq e.2 d h
theorem saysZ_of {n : Nat} {L : Lw} {main : Str} {fn : List He.DefD} {su : List SuD} {g : Addr → Option Obj} (e : obsZ n L main fn su g = valZ fn su) : SaysZ L main fn su (He.frT g (cStatics :: He.asD g n)) := by
  unfold obsZ valZ at e
  simp only [Prod.mk.injEq, Bool.and_eq_true] at e
  obtain ⟨⟨⟨e1, e2, e3, e4⟩, e5⟩, e6⟩ := e
  exact ⟨e1, fun d hd => He.DefD.funD (map_eq e5 d hd) (List.all_eq_true.mp e2 d hd), fun d hd => ⟨map_eq e6 d hd, List.all_eq_true.mp e3 d hd⟩, fun d hd hn => by
    have := List.all_eq_true.mp e4 d hd
    rw [hn] at this
    exact this⟩
def hookZ (n : Nat) (L : Lw) (main : Str) (fn : List He.DefD) (su : List SuD) : PySem.W.Hook where
  α := AlZ
  obs := fun s => obsZ n L main fn su s.heap.get?
  val := fun _ => valZ fn su
  says := fun _ h => ∃ K : PySem.W.Frag, K.In h ∧ SaysZ L main fn su K
  of := fun _ _ e => ⟨_, He.frT_in, saysZ_of e⟩
  keeps := fun _ _ _ ⟨K, hK, c⟩ k => ⟨K, PySem.W.Frag.In.keeps hK k, c⟩
theorem obsZ_eq {n : Nat} {L : Lw} {main : Str} {fn : List He.DefD} {su : List SuD} {g : Addr → Option Obj} {s : Shared} (h : ∀ a, g a = s.heap.get? a) : obsZ n L main fn su g = (hookZ n L main fn su).obs s := by
  have e : g = s.heap.get? := funext h
  rw [e] <;> rfl
end Z
end

section
set_option Elab.async false
set_option linter.all false
set_option maxRecDepth 100000
set_option maxHeartbeats 4000000
/-! The head: joined. -/
namespace Z
open PySem PySem.Spec PyProof.Rows L2
/-- an exception's init, as it must be -/
structure SuOk (d : SuD) : Prop where
  base : ExcBaseFacts d.B (d.B ++ ".__new__") (d.B ++ ".__init__") d.bm
  store : StoreFacts d.B d.bm "object.__setattr__" "object"
  kx : PySem.W.KxsFacts d.B (d.B ++ ".__init__")
  hb : suShape d.f (defBody d.st) = true
  hs : suScB d.f (defScope d.st) = true
  ha : ∃ ar, ((defArgs d.st).posonlyargs ++ (defArgs d.st).args).head? = some ar ∧ ar.arg = ("self" : Str)
  hbind : ∀ (name qual : Str) (kV doc pm : Value) (an : Option Addr) (cda : Addr) (ct : Value) (cc : Addr) (u v : Value), bindArgs (PySem.W.ksFn name qual (defArgs d.st) (defBody d.st) (defScope d.st) .none kV doc pm an (.ref cda) ct cc) ⟨[u, v], []⟩ = pure [(("self" : Str), u), (d.f, v)]
def suCov (L : Lw) (su : List SuD) : Bool := L.nm.all fun p => match p.2 with
  | .XF c f => su.any fun d => Nat.beq d.c c && (seq d.f f && seq d.cls (L.names.getD c ⟨#[63]⟩))
  | _ => true
theorem mem_ix {α : Type} {l : List α} (i : Nat) {d : α} (h : l[i]? = some d) : d ∈ l := List.mem_of_getElem? h
section
variable {P : Program} {w : World} {K : PySem.W.Frag} {mg : Str → Option Value} {base : Heap} {C : Cg} {T : Tb} {ma : List Str} {x : Str} {N ps : List Str} {k n l : Nat} {b : CS} {mu : List Nat} {fz : List (Nat × List Nat)} {rr : Bool} {L : Lw} {fn : List He.DefD} {su : List SuD} {main : Str} {h : Heap}
theorem tok0z (KX : K.In h) (G : h.Ns mainGlobals mg) (c : SaysZ L P.main.file fn su K) (htop : (P.main.scope.names.lookup ("super" : Str)).isSome = false) (hs : ∀ d ∈ su, SuOk d) (hc : suCov L su = true) : TOk (L.cg K) P w K mg base L.tb := by
  refine tok0 KX G c.ex htop fun x cc f hx => ?_
  have q := List.all_eq_true.mp hc _ (slook_mem hx)
  dsimp only at q
  obtain ⟨d, hd, q⟩ := List.any_eq_true.mp q
  simp only [Bool.and_eq_true] at q
  obtain ⟨q1, q2, q3⟩ := q
  have o := hs d hd
  obtain ⟨e, b⟩ := c.su d hd
  have z := suC_of e b o.base o.store o.kx o.hb o.hs o.ha o.hbind
  have hcl : (L.cg K).cl cc = He.ga K d.cls := by
    show He.ga K (L.names.getD cc ⟨#[63]⟩) = _
    rw [seq_iff.mp q3]
  rw [hcl, ← seq_iff.mp q2]
  exact ⟨_, _, _, _, z⟩
theorem addPd (t : TOk C P w K mg base T) (KX : K.In h) (G : h.Ns mainGlobals mg) (c : SaysZ L main fn su K) {d : He.DefD} (hd : d ∈ fn) (h1 : d.at_ = (x, none)) (h2 : d.dfl = []) (h3 : d.kwd = []) (h4 : d.name = x) (h5 : d.qual = x) (tr : trB T ma ⟨N, d.scope, true, k, mu, fz, rr⟩ d.body = some b) (hs : fnsC N ps d.scope = true)
    (hb : ∀ (kV doc pm : Value) (an : Option Addr) (cdv ct : Value) (us : List Value), us.length = ps.length → bindArgs (PySem.W.fnOf x x d.params d.body d.scope .none kV doc pm an cdv ct) ⟨us, []⟩ = pure (ps.zip us)) (hn : N.length = n) (hl : ps.length = l) :
    TOk C P w K mg base { T with nm := (x, .P l (k + 1) (runP b n l)) :: T.nm } := by
  obtain ⟨fd, F⟩ := c.def_ d hd
  have g := c.glo d hd (by rw [h1])
  obtain ⟨a1, a2, a3, a4, a5, a6, a7, a8⟩ := d
  dsimp only at h1 h2 h3 h4 h5 hb tr hs F g
  subst h1 h2 h3 h4 h5
  exact addP t F (He.glo_ok KX G g) tr hs hb hn hl
theorem addId (t : TOk C P w K mg base T) (KX : K.In h) (G : h.Ns mainGlobals mg) (c : SaysZ L main fn su K) {d : He.DefD} (hd : d ∈ fn) (h1 : d.at_ = (x, none)) (h2 : d.dfl = []) (h3 : d.kwd = []) (h4 : d.name = x) (h5 : d.qual = x) (tr : trB T ma ⟨N, d.scope, true, k, mu, fz, rr⟩ d.body = some b) (hs : fnsC N ps d.scope = true)
    (hb : ∀ (kV doc pm : Value) (an : Option Addr) (cdv ct : Value) (us : List Value), us.length = ps.length → bindArgs (PySem.W.fnOf x x d.params d.body d.scope .none kV doc pm an cdv ct) ⟨us, []⟩ = pure (ps.zip us)) (hn : N.length = n) (hl : ps.length = l) :
    TOk C P w K mg base { T with nm := (x, .I l (k + 1) (runI b n l)) :: T.nm } := by
  obtain ⟨fd, F⟩ := c.def_ d hd
  have g := c.glo d hd (by rw [h1])
  obtain ⟨a1, a2, a3, a4, a5, a6, a7, a8⟩ := d
  dsimp only at h1 h2 h3 h4 h5 hb tr hs F g
  subst h1 h2 h3 h4 h5
  exact addI t F (He.glo_ok KX G g) tr hs hb hn hl
theorem addMd {cc : Nat} {fz0 : Bool} {y nm ql : Str} (t : TOk (L.cg K) P w K mg base T) (KX : K.In h) (G : h.Ns mainGlobals mg) (c : SaysZ L main fn su K) {d : He.DefD} (hd : d ∈ fn) (h1 : d.at_ = (y, some ("__init__" : Str))) (h2 : d.dfl = []) (h3 : d.kwd = []) (h4 : d.name = nm) (h5 : d.qual = ql) (hc : L.kn.any (Nat.beq cc) = true) (hy : L.names.getD cc ⟨#[63]⟩ = y) (tr : trB T ma ⟨N, d.scope, true, k, mu, fz, rr⟩ d.body = some b) (hs : fnsC N ps d.scope = true)
    (hb : ∀ (kV doc pm : Value) (an : Option Addr) (cdv ct : Value) (us : List Value), us.length = ps.length → bindArgs (PySem.W.fnOf nm ql d.params d.body d.scope .none kV doc pm an cdv ct) ⟨us, []⟩ = pure (ps.zip us)) (hn : N.length = n) (hl : ps.length = l) :
    TOk (L.cg K) P w K mg base { T with nm := (y, .M cc l (k + 1) fz0 (runI b n l)) :: T.nm } := by
  obtain ⟨fd, F⟩ := c.def_ d hd
  obtain ⟨a1, a2, a3, a4, a5, a6, a7, a8⟩ := d
  dsimp only at h1 h2 h3 h4 h5 hb tr hs F
  subst h1 h2 h3 h4 h5
  exact addM KX G c.ex hc hy t F tr hs hb hn hl
end
/-- what is asked of the law's def -/
theorem law_sp {K : PySem.W.Frag} {C : Cg} {F : List D → R D} {n : Nat} (hF : ∀ ns : List Int, ns.length ≤ n → F [.lck ns] = .ok (.bl true)) (H : Hp) (a : Addr) (ns : List Int) (hl : ns.length ≤ n) (hS : SqL K H a (ns.map V.int)) : spP K C 1 F [.ref a] H (fun v _ => v = .bl true) fun _ _ _ => False := by
  refine ⟨rfl, fun _ => False, [.lck ns], fun a h => h.elim, .cons ?_ .nil, ?_⟩
  · simp only [RD]
    exact ⟨a, rfl, hS.elim (fun h => .inl ⟨h, fun z => z⟩) .inr⟩
  · rw [hF ns hl]
    intro H' v _ hv
    simpa only [RD] using hv
theorem walk_Z {l : PySem.W.OpenLaw} {n k N : Nat} {q : Program} {loose : List Str} {XP : (Str → Option Value) → Heap → Prop} {d : DefRec} {x y : Str} {L : Lw} {fn : List He.DefD} {su : List SuD} {main : Str} {F : List D → R D}
    (hn : l.most = some n) (hn2 : n ≤ sizeLine) (hdf : d.params.defaults = []) (hr : Room k callerA) (hd : d.name = y) (hF : ∀ ns : List Int, ns.length ≤ n → F [.lck ns] = .ok (.bl true)) {dd : He.DefD} (hdd : dd ∈ fn) (h1 : dd.at_ = (y, none)) (h2 : dd.dfl = []) (h3 : dd.kwd = [])
    (hb : ∀ (kV doc pm : Value) (an : Option Addr) (cdv ct : Value) (us : List Value), us.length = [x].length → bindArgs (PySem.W.fnOf dd.name dd.qual dd.params dd.body dd.scope .none kV doc pm an cdv ct) ⟨us, []⟩ = pure ([x].zip us))
    (hyp : ∀ (w : World) (mg : Str → Option Value) (h : Heap) (K : PySem.W.Frag), K.In h → h.Ns mainGlobals mg → SaysZ L main fn su K → ∀ (base : Heap), K.In base → base.Ns mainGlobals mg → ∀ fd, FunD K dd.name dd.qual dd.params dd.body dd.scope [] [] (He.ga K y) fd → FnOk l.prog w K mg base (L2.CX l.prog w) k (He.ga K y) fd [x] (spP K (L.cg K) 1 F)) :
    PySem.W.WalkO q loose XP (hookZ N L main fn su).says l.row.toRowW d [] (fun f vs => PySem.call f vs) := by
  refine Att.attach_call hn hdf fun w s₀ s₁ mg mb fa o pm cd doc a vs ns G Y ho hd' hcd hmg hobj hints hlen hg => ?_
  obtain ⟨K, KX, c⟩ := Y
  obtain ⟨fd, F0⟩ := c.def_ dd hdd
  have g := c.glo dd hdd (by rw [h1])
  obtain ⟨a1, a2, a3, a4, a5, a6, a7, a8⟩ := dd
  dsimp only at h1 h2 h3 hb hyp F0 g
  subst h1 h2 h3
  have e : mg y = some (.ref fa) := by rw [← hd]; exact hmg
  have e' := e.symm.trans (He.glo_ok KX G.T.g g)
  cases e'
  exact law_call (CX := L2.CX l.prog w) KX G.T.g G.T.b G.T.builtins G.T.nolimit hg hobj hints (Nat.le_trans hlen hn2) hr (fun base hB hN => hyp w mg _ K KX G.T.g c base hB hN fd F0) (fun s u => F0.bindsA hb s [u] rfl) (fun H hO hS => law_sp hF H a ns hlen hS) fun H e s' z => by
    obtain ⟨_, _, _, _, _, _, _, _, _, _, _, _, z⟩ := z
    exact z
end Z
end

section
set_option Elab.async false
set_option linter.all false
set_option maxRecDepth 100000
set_option maxHeartbeats 1000000
/-! The plain side run forward: what must hold behind a piece. -/
namespace Z
/-- it ends, and then Q; or by an exception, and then E -/
@[irreducible] def wp {α : Type} (r : RS α) (Q : α → S → Prop) (E : Exn → S → Prop) : Prop := match r with
  | .ok a s => Q a s
  | .exc x s => E x s
  | .bad => False
structure Po where
  N : Env → S → Prop
  B : Env → S → Prop := fun _ _ => False
  C : Env → S → Prop := fun _ _ => False
  R : W → S → Prop := fun _ _ => False
  E : Exn → Env → S → Prop := fun _ _ _ => False
@[irreducible] def wf (r : RF) (p : Po) : Prop := match r with
  | .nx e s => p.N e s
  | .brk e s => p.B e s
  | .cnt e s => p.C e s
  | .ret w s => p.R w s
  | .exc x e s => p.E x e s
  | .bad => False
section
variable {α β : Type} {r : RS α} {k : α → S → RS β} {kf : α → S → RF} {Q : α → S → Prop} {Qb : β → S → Prop} {E : Exn → S → Prop} {p : Po} {e : Env} {s : S} {a b c : CE} {t u : CT} {g : CA} {QW : W → S → Prop} {QB : Bool → S → Prop} {QL : List W → S → Prop} {QD : List D → S → Prop}
theorem wp_bind (h : wp r (fun a s => wp (k a s) Qb E) E) : wp (r.bind k) Qb E := by
  cases r <;> with_unfolding_all exact h
theorem wp_toF (h : wp r (fun a s => wf (kf a s) p) (fun x s => p.E x e s)) : wf (r.toF e kf) p := by
  cases r <;> with_unfolding_all exact h
theorem wp_mono (h : wp r Q E) {Q' : α → S → Prop} {E' : Exn → S → Prop} (q : ∀ a s, Q a s → Q' a s) (x : ∀ a s, E a s → E' a s) : wp r Q' E' := by
  cases r with
  | ok a s => with_unfolding_all exact q _ _ h
  | exc a s => with_unfolding_all exact x _ _ h
  | bad => with_unfolding_all exact h
theorem wp_of_eq {a : α} {s1 : S} (h : r = .ok a s1) (q : Q a s1) : wp r Q E := by rw [h]; with_unfolding_all exact q
theorem wp_ok {a : α} (h : Q a s) : wp (.ok a s) Q E := by with_unfolding_all exact h
theorem wf_mono {r : RF} {p' : Po} (h : wf r p) (n : ∀ e s, p.N e s → p'.N e s) (b : ∀ e s, p.B e s → p'.B e s) (c : ∀ e s, p.C e s → p'.C e s) (q : ∀ w s, p.R w s → p'.R w s) (x : ∀ x e s, p.E x e s → p'.E x e s) : wf r p' := by
  cases r with
  | nx _ _ => with_unfolding_all exact n _ _ h
  | brk _ _ => with_unfolding_all exact b _ _ h
  | cnt _ _ => with_unfolding_all exact c _ _ h
  | ret _ _ => with_unfolding_all exact q _ _ h
  | exc _ _ _ => with_unfolding_all exact x _ _ _ h
  | bad => with_unfolding_all exact h
/-! ### expressions -/
theorem wp_var {i : Nat} {w : W} (he : e[i]? = some (some w)) (h : QW w s) : wp (cVar i e s) QW E := by
  unfold cVar
  rw [he]
  with_unfolding_all exact h
theorem wp_K {x : D} (h : QW (.d x) s) : wp (cK x e s) QW E := by with_unfolding_all exact h
/-- views of values -/
theorem wp_op {f : Op2} (h : wp (a e s) (fun x s1 => wp (b e s1) (fun y s2 => ∃ u v z, view x s2 = some u ∧ view y s2 = some v ∧ f u v = some z ∧ QW (.d z) s2) E) E) : wp (cOp f a b e s) QW E := by
  unfold cOp
  refine wp_bind (wp_mono h (fun x s1 h => wp_bind (wp_mono h (fun y s2 h => ?_) fun _ _ h => h)) fun _ _ h => h)
  obtain ⟨u, v, z, h1, h2, h3, h4⟩ := h
  rw [h1, h2]
  dsimp only
  rw [h3]
  with_unfolding_all exact h4
theorem wp_un {f : Op1} (h : wp (a e s) (fun x s1 => ∃ u z, view x s1 = some u ∧ f u = some z ∧ QW (.d z) s1) E) : wp (cUn f a e s) QW E := by
  unfold cUn
  refine wp_bind (wp_mono h (fun x s1 h => ?_) fun _ _ h => h)
  obtain ⟨u, z, h1, h2, h3⟩ := h
  rw [h1]
  dsimp only
  rw [h2]
  with_unfolding_all exact h3
theorem wp_chain {f f' : Op2} (h : wp (a e s) (fun x s1 => wp (b e s1) (fun y s2 => ∃ u v z, view x s2 = some u ∧ view y s2 = some v ∧ f u v = some (.bl z) ∧ (z = true → wp (c e s2) (fun y2 s3 => ∃ v' u' z', view y s3 = some v' ∧ view y2 s3 = some u' ∧ f' v' u' = some (.bl z') ∧ QW (.d (.bl z')) s3) E) ∧ (z = false → QW (.d (.bl false)) s2)) E) E) : wp (cChain f f' a b c e s) QW E := by
  unfold cChain
  refine wp_bind (wp_mono h (fun x s1 h => wp_bind (wp_mono h (fun y s2 h => ?_) fun _ _ h => h)) fun _ _ h => h)
  obtain ⟨u, v, z, h1, h2, h3, h4, h5⟩ := h
  rw [h1, h2]
  dsimp only
  rw [h3]
  cases z with
  | false => with_unfolding_all exact h5 rfl
  | true =>
    refine wp_bind (wp_mono (h4 rfl) (fun y2 s3 h => ?_) fun _ _ h => h)
    obtain ⟨v', u', z', h1, h2, h3, h4⟩ := h
    rw [h1, h2]
    dsimp only
    rw [h3]
    with_unfolding_all exact h4
theorem wp_tru (h : wp (a e s) (fun x s1 => ∃ u z, view x s1 = some u ∧ truth u = some z ∧ QB z s1) E) : wp (cTru a e s) QB E := by
  unfold cTru
  refine wp_bind (wp_mono h (fun x s1 h => ?_) fun _ _ h => h)
  obtain ⟨u, z, h1, h2, h3⟩ := h
  rw [h1]
  dsimp only
  rw [h2]
  with_unfolding_all exact h3
theorem wp_TB (h : wp (a e s) (fun x s1 => ∃ z, x = .d (.bl z) ∧ QB z s1) E) : wp (cTB a e s) QB E := by
  unfold cTB
  refine wp_bind (wp_mono h (fun x s1 h => ?_) fun _ _ h => h)
  obtain ⟨z, rfl, h⟩ := h
  with_unfolding_all exact h
theorem wp_tAnd (h : wp (t e s) (fun x s1 => (x = true → wp (u e s1) QB E) ∧ (x = false → QB false s1)) E) : wp (tAnd t u e s) QB E := by
  unfold tAnd
  refine wp_bind (wp_mono h (fun x s1 h => ?_) fun _ _ h => h)
  cases x with
  | true => with_unfolding_all exact h.1 rfl
  | false => with_unfolding_all exact h.2 rfl
theorem wp_tOr (h : wp (t e s) (fun x s1 => (x = true → QB true s1) ∧ (x = false → wp (u e s1) QB E)) E) : wp (tOr t u e s) QB E := by
  unfold tOr
  refine wp_bind (wp_mono h (fun x s1 h => ?_) fun _ _ h => h)
  cases x with
  | true => with_unfolding_all exact h.1 rfl
  | false => with_unfolding_all exact h.2 rfl
theorem wp_tNot (h : wp (t e s) (fun x s1 => QB (!x) s1) E) : wp (tNot t e s) QB E := wp_bind (wp_mono h (fun _ _ h => wp_ok h) fun _ _ h => h)
theorem wp_cAnd (h : wp (a e s) (fun x s1 => ∃ z, x = .d (.bl z) ∧ (z = true → wp (b e s1) QW E) ∧ (z = false → QW (.d (.bl false)) s1)) E) : wp (cAnd a b e s) QW E := by
  unfold cAnd
  refine wp_bind (wp_mono h (fun x s1 h => ?_) fun _ _ h => h)
  obtain ⟨z, rfl, h1, h2⟩ := h
  cases z with
  | true => with_unfolding_all exact h1 rfl
  | false => with_unfolding_all exact h2 rfl
theorem wp_cOr (h : wp (a e s) (fun x s1 => ∃ z, x = .d (.bl z) ∧ (z = true → QW (.d (.bl true)) s1) ∧ (z = false → wp (b e s1) QW E)) E) : wp (cOr a b e s) QW E := by
  unfold cOr
  refine wp_bind (wp_mono h (fun x s1 h => ?_) fun _ _ h => h)
  obtain ⟨z, rfl, h1, h2⟩ := h
  cases z with
  | true => with_unfolding_all exact h1 rfl
  | false => with_unfolding_all exact h2 rfl
theorem wp_cNot (h : wp (a e s) (fun x s1 => ∃ z, x = .d (.bl z) ∧ QW (.d (.bl (!z))) s1) E) : wp (cNot a e s) QW E := by
  unfold cNot
  refine wp_bind (wp_mono h (fun x s1 h => ?_) fun _ _ h => h)
  obtain ⟨z, rfl, h⟩ := h
  with_unfolding_all exact h
theorem wp_cIf (h : wp (t e s) (fun x s1 => (x = true → wp (a e s1) QW E) ∧ (x = false → wp (b e s1) QW E)) E) : wp (cIf t a b e s) QW E := by
  unfold cIf
  refine wp_bind (wp_mono h (fun x s1 h => ?_) fun _ _ h => h)
  cases x with
  | true => with_unfolding_all exact h.1 rfl
  | false => with_unfolding_all exact h.2 rfl
theorem wp_aNil (h : QL [] s) : wp (aNil e s) QL E := by with_unfolding_all exact h
theorem wp_aCons (h : wp (a e s) (fun x s1 => wp (g e s1) (fun xs s2 => QL (x :: xs) s2) E) E) : wp (aCons a g e s) QL E := wp_bind (wp_mono h (fun _ _ h => wp_bind (wp_mono h (fun _ _ h => wp_ok h) fun _ _ h => h)) fun _ _ h => h)
theorem wp_aStar (h : wp (a e s) (fun x s1 => ∃ u xs, view x s1 = some u ∧ itemsOf u = some xs ∧ wp (g e s1) (fun ys s2 => QL (xs.map W.d ++ ys) s2) E) E) : wp (aStar a g e s) QL E := by
  unfold aStar
  refine wp_bind (wp_mono h (fun x s1 h => ?_) fun _ _ h => h)
  obtain ⟨u, xs, h1, h2, h3⟩ := h
  rw [h1]
  dsimp only
  rw [h2]
  with_unfolding_all exact wp_bind h3
theorem wp_tup (h : wp (g e s) (fun ws s1 => ∃ xs, asDs ws = some xs ∧ xs.length ≤ LIM ∧ QW (.d (.tup xs)) s1) E) : wp (cTup g e s) QW E := by
  unfold cTup
  refine wp_bind (wp_mono h (fun ws s1 h => ?_) fun _ _ h => h)
  obtain ⟨xs, h1, h2, h3⟩ := h
  rw [h1]
  dsimp only
  rw [if_pos h2]
  with_unfolding_all exact h3
theorem wp_disp (h : wp (g e s) (fun ws s1 => ∃ xs, asDs ws = some xs ∧ xs.length ≤ LIM ∧ QD xs s1) E) : wp (lDisp g e s) QD E := by
  unfold lDisp
  refine wp_bind (wp_mono h (fun ws s1 h => ?_) fun _ _ h => h)
  obtain ⟨xs, h1, h2, h3⟩ := h
  rw [h1]
  dsimp only
  rw [if_pos h2]
  with_unfolding_all exact h3
theorem wp_frz {l : CL} (h : wp (l e s) (fun xs s1 => QW (.d (.lst xs)) s1) E) : wp (cFrz l e s) QW E := wp_bind (wp_mono h (fun _ _ h => wp_ok h) fun _ _ h => h)
theorem wp_new {l : CL} (h : wp (l e s) (fun xs s1 => QW (.ref s1.nx) (s1.add (.lst xs))) E) : wp (cNew l e s) QW E := wp_bind (wp_mono h (fun _ _ h => wp_ok h) fun _ _ h => h)
theorem wp_done (h : wp (a e s) (fun w s1 => match w with
    | .ref i => ∃ xs, s1.get i = some (.lst xs) ∧ QW (.d (.lst xs)) (s1.del i)
    | .d x => QW (.d x) s1) E) : wp (cDone a e s) QW E := by
  unfold cDone
  refine wp_bind (wp_mono h (fun w s1 h => ?_) fun _ _ h => h)
  cases w with
  | d x => with_unfolding_all exact h
  | ref i =>
    obtain ⟨xs, h1, h2⟩ := h
    dsimp only
    rw [h1]
    with_unfolding_all exact h2
theorem wp_bi {k : Bi} (h : wp (g e s) (fun ws s1 => ∃ xs y, viewAll ws s1 = some xs ∧ k xs = some y ∧ QW (.d y) s1) E) : wp (cBi k g e s) QW E := by
  unfold cBi
  refine wp_bind (wp_mono h (fun ws s1 h => ?_) fun _ _ h => h)
  obtain ⟨xs, y, h1, h2, h3⟩ := h
  rw [h1]
  dsimp only
  rw [h2]
  with_unfolding_all exact h3
theorem wp_is {T : Ty} (h : wp (a e s) (fun x s1 => ∃ u z, view x s1 = some u ∧ isInst T u = some z ∧ QW (.d (.bl z)) s1) E) : wp (cIs T a e s) QW E := by
  unfold cIs
  refine wp_bind (wp_mono h (fun x s1 h => ?_) fun _ _ h => h)
  obtain ⟨u, z, h1, h2, h3⟩ := h
  rw [h1]
  dsimp only
  rw [h2]
  with_unfolding_all exact h3
theorem wp_list (h : wp (a e s) (fun x s1 => ∃ u xs, view x s1 = some u ∧ iterOf u = some xs ∧ QD xs s1) E) : wp (lList a e s) QD E := by
  unfold lList
  refine wp_bind (wp_mono h (fun x s1 h => ?_) fun _ _ h => h)
  obtain ⟨u, xs, h1, h2, h3⟩ := h
  rw [h1]
  cases u <;> first | (cases h2; with_unfolding_all exact h3) | cases h2
theorem wp_pNone {QO : Option Int → S → Prop} (h : QO none s) : wp (pNone e s) QO E := by with_unfolding_all exact h
theorem wp_pSome {QO : Option Int → S → Prop} (h : wp (a e s) (fun x s1 => ∃ i, x = .d (.int i) ∧ QO (some i) s1) E) : wp (pSome a e s) QO E := by
  unfold pSome
  refine wp_bind (wp_mono h (fun x s1 h => ?_) fun _ _ h => h)
  obtain ⟨i, rfl, h⟩ := h
  with_unfolding_all exact h
/-- a slice as a value -/
def cutV (u : D) (l h : Option Int) : Option D := match u with
  | .tup xs => some (.tup (cutD xs l h))
  | .lst xs => some (.lst (cutD xs l h))
  | .str xs => some (.str (cutD xs l h))
  | _ => none
theorem wp_sl {lo hi : CO} (h : wp (a e s) (fun x s1 => wp (lo e s1) (fun l s2 => wp (hi e s2) (fun hh s3 => ∃ u z, view x s3 = some u ∧ cutV u l hh = some z ∧ QW (.d z) s3) E) E) E) : wp (cSl a lo hi e s) QW E := by
  unfold cSl
  refine wp_bind (wp_mono h (fun x s1 h => wp_bind (wp_mono h (fun l s2 h => wp_bind (wp_mono h (fun hh s3 h => ?_) fun _ _ h => h)) fun _ _ h => h)) fun _ _ h => h)
  obtain ⟨u, z, h1, h2, h3⟩ := h
  rw [h1]
  cases u <;> first | (cases h2; with_unfolding_all exact h3) | cases h2
theorem wp_lSl {lo hi : CO} (h : wp (a e s) (fun x s1 => wp (lo e s1) (fun l s2 => wp (hi e s2) (fun hh s3 => ∃ xs, view x s3 = some (.lst xs) ∧ QD (cutD xs l hh) s3) E) E) E) : wp (lSl a lo hi e s) QD E := by
  unfold lSl
  refine wp_bind (wp_mono h (fun x s1 h => wp_bind (wp_mono h (fun l s2 h => wp_bind (wp_mono h (fun hh s3 h => ?_) fun _ _ h => h)) fun _ _ h => h)) fun _ _ h => h)
  obtain ⟨xs, h1, h3⟩ := h
  rw [h1]
  with_unfolding_all exact h3
def revV (u : D) : Option D := match u with
  | .tup xs => some (.tup xs.reverse)
  | .lst xs => some (.lst xs.reverse)
  | _ => none
theorem wp_rev (h : wp (a e s) (fun x s1 => ∃ u z, view x s1 = some u ∧ revV u = some z ∧ QW (.d z) s1) E) : wp (cRev a e s) QW E := by
  unfold cRev
  refine wp_bind (wp_mono h (fun x s1 h => ?_) fun _ _ h => h)
  obtain ⟨u, z, h1, h2, h3⟩ := h
  rw [h1]
  cases u <;> first | (cases h2; with_unfolding_all exact h3) | cases h2
theorem wp_lRev (h : wp (a e s) (fun x s1 => ∃ xs, view x s1 = some (.lst xs) ∧ QD xs.reverse s1) E) : wp (lRev a e s) QD E := by
  unfold lRev
  refine wp_bind (wp_mono h (fun x s1 h => ?_) fun _ _ h => h)
  obtain ⟨xs, h1, h3⟩ := h
  rw [h1]
  with_unfolding_all exact h3
theorem wp_fldO {ix : Nat → Option Nat} (h : wp (a e s) (fun x s1 => ∃ c xs i y, x = .d (.obj c xs) ∧ ix c = some i ∧ xs[i]? = some y ∧ QW (.d y) s1) E) : wp (cFld ix a e s) QW E := by
  unfold cFld
  refine wp_bind (wp_mono h (fun x s1 h => ?_) fun _ _ h => h)
  obtain ⟨c, xs, i, y, rfl, h2, h3, h4⟩ := h
  dsimp only
  rw [h2]
  dsimp only
  rw [h3]
  with_unfolding_all exact h4
theorem wp_callP {F : List D → R D} (h : wp (g e s) (fun ws s1 => ∃ xs, viewAll ws s1 = some xs ∧ (match F xs with
    | .ok y => (anyRef ws && !noLst y) = false ∧ QW (.d y) s1
    | .exc x => (anyRef ws && !noLst x.a) = false ∧ E x s1
    | .bad => False)) E) : wp (cCallP F g e s) QW E := by
  unfold cCallP
  refine wp_bind (wp_mono h (fun ws s1 h => ?_) fun _ _ h => h)
  obtain ⟨xs, h1, h2⟩ := h
  rw [h1]
  dsimp only
  cases q : F xs with
  | bad => rw [q] at h2; with_unfolding_all exact h2.elim
  | ok y =>
    rw [q] at h2
    dsimp only at h2 ⊢
    rw [h2.1]
    with_unfolding_all exact h2.2
  | exc x =>
    rw [q] at h2
    dsimp only at h2 ⊢
    rw [h2.1]
    with_unfolding_all exact h2.2
/-- .. that ends -/
theorem wp_callP_ok {F : List D → R D} (h : wp (g e s) (fun ws s1 => ∃ xs y, viewAll ws s1 = some xs ∧ F xs = .ok y ∧ (anyRef ws && !noLst y) = false ∧ QW (.d y) s1) E) : wp (cCallP F g e s) QW E := by
  refine wp_callP (wp_mono h (fun ws s1 h => ?_) fun _ _ h => h)
  obtain ⟨xs, y, h1, h2, h3, h4⟩ := h
  refine ⟨xs, h1, ?_⟩
  rw [h2]
  with_unfolding_all exact ⟨h3, h4⟩
theorem wp_callI {F : List W → S → RS W} (h : wp (g e s) (fun ws s1 => wp (F ws s1) QW E) E) : wp (cCallI F g e s) QW E := wp_bind h
theorem wp_strM {k : SMt} (h : wp (a e s) (fun x s1 => ∃ t, x = .d (.str t) ∧ wp (g e s1) (fun ws s2 => ∃ xs y, viewAll ws s2 = some xs ∧ k t xs = some y ∧ QW (.d y) s2) E) E) : wp (cStrM k a g e s) QW E := by
  unfold cStrM
  refine wp_bind (wp_mono h (fun x s1 h => ?_) fun _ _ h => h)
  obtain ⟨t, rfl, h⟩ := h
  refine wp_bind (wp_mono h (fun ws s2 h => ?_) fun _ _ h => h)
  obtain ⟨xs, y, h1, h2, h3⟩ := h
  rw [h1]
  dsimp only
  rw [h2]
  with_unfolding_all exact h3
theorem wp_append (h : wp (a e s) (fun x s1 => ∃ i xs0, x = .ref i ∧ s1.get i = some (.lst xs0) ∧ wp (b e s1) (fun y s2 => ∃ z xs, y = .d z ∧ s2.get i = some (.lst xs) ∧ xs.length < LIM ∧ QW (.d .non) (s2.put i (.lst (xs ++ [z])))) E) E) : wp (cAppend a b e s) QW E := by
  unfold cAppend
  refine wp_bind (wp_mono h (fun x s1 h => ?_) fun _ _ h => h)
  obtain ⟨i, xs0, rfl, h1, h⟩ := h
  dsimp only
  rw [h1]
  refine wp_bind (wp_mono h (fun y s2 h => ?_) fun _ _ h => h)
  obtain ⟨z, xs, rfl, h2, h3, h4⟩ := h
  rw [h2]
  dsimp only
  rw [if_pos h3]
  with_unfolding_all exact h4
theorem wp_extend (h : wp (a e s) (fun x s1 => ∃ i xs0, x = .ref i ∧ s1.get i = some (.lst xs0) ∧ wp (b e s1) (fun y s2 => ∃ u ys xs, view y s2 = some u ∧ itemsOf u = some ys ∧ s2.get i = some (.lst xs) ∧ xs.length + ys.length ≤ LIM ∧ QW (.d .non) (s2.put i (.lst (xs ++ ys)))) E) E) : wp (cExtend a b e s) QW E := by
  unfold cExtend
  refine wp_bind (wp_mono h (fun x s1 h => ?_) fun _ _ h => h)
  obtain ⟨i, xs0, rfl, h1, h⟩ := h
  dsimp only
  rw [h1]
  refine wp_bind (wp_mono h (fun y s2 h => ?_) fun _ _ h => h)
  obtain ⟨u, ys, xs, h2, h3, h4, h5, h6⟩ := h
  rw [h2, h4]
  dsimp only
  rw [h3]
  dsimp only
  rw [if_pos h5]
  with_unfolding_all exact h6
/-! ### statements -/
theorem wp_okE {α : Type} {a : α} {s : S} {Q : α → S → Prop} {E : Exn → S → Prop} (h : wp (.ok a s) Q E) : Q a s := by with_unfolding_all exact h
theorem wf_excE {x : Exn} {e : Env} {s : S} {p : Po} (h : wf (.exc x e s) p) : p.E x e s := by with_unfolding_all exact h
theorem wf_retv {w : W} (h : p.R w s) : wf (.ret w s) p := by with_unfolding_all exact h
theorem wf_nxv (h : p.N e s) : wf (.nx e s) p := by with_unfolding_all exact h
theorem wf_nil (h : p.N e s) : wf (sNil e s) p := by with_unfolding_all exact h
theorem wf_seq {x y : CS} (h : wf (x e s) { p with N := fun e1 s1 => wf (y e1 s1) p }) : wf (sSeq x y e s) p := by
  unfold sSeq
  revert h
  cases x e s <;> with_unfolding_all exact fun h => h
theorem wf_set {i : Nat} (h : wp (a e s) (fun w s1 => p.N (e.set i (some w)) s1) (fun x s1 => p.E x e s1)) : wf (sAsg a (gNm i) e s) p := by
  unfold sAsg gNm
  with_unfolding_all exact wp_toF (wp_mono h (fun w s1 h => h) fun _ _ h => h)
theorem wf_asg {tg : TG} (h : wp (a e s) (fun w s1 => wp (tg w e s1) p.N (fun x s2 => p.E x e s2)) (fun x s1 => p.E x e s1)) : wf (sAsg a tg e s) p := by
  unfold sAsg
  with_unfolding_all exact wp_toF (wp_mono h (fun w s1 h => wp_toF (wp_mono h (fun e1 s2 h => h) fun _ _ h => h)) fun _ _ h => h)
theorem wf_expr (h : wp (a e s) (fun w s1 => p.N e s1) (fun x s1 => p.E x e s1)) : wf (sExpr a e s) p := wp_toF (wp_mono h (fun _ _ h => wf_nil h) fun _ _ h => h)
theorem wf_ret (h : wp (a e s) p.R (fun x s1 => p.E x e s1)) : wf (sRet a e s) p := wp_toF (wp_mono h (fun _ _ h => wf_retv h) fun _ _ h => h)
theorem wf_retN (h : p.R (.d .non) s) : wf (sRetN e s) p := by with_unfolding_all exact h
theorem wf_if {x y : CS} (h : wp (t e s) (fun z s1 => (z = true → wf (x e s1) p) ∧ (z = false → wf (y e s1) p)) (fun x s1 => p.E x e s1)) : wf (sIf t x y e s) p := by
  unfold sIf
  refine wp_toF (wp_mono h (fun z s1 h => ?_) fun _ _ h => h)
  cases z with
  | true => with_unfolding_all exact h.1 rfl
  | false => with_unfolding_all exact h.2 rfl
theorem wf_par {gs : List TG} (h : wp (g e s) (fun ws s1 => wp (gAll gs ws e s1) p.N (fun x s2 => p.E x e s2)) (fun x s1 => p.E x e s1)) : wf (sPar g gs e s) p := wp_toF (wp_mono h (fun ws s1 h => wp_toF (wp_mono h (fun _ _ h => wf_nil h) fun _ _ h => h)) fun _ _ h => h)
theorem wf_brk (h : p.B e s) : wf (sBrk e s) p := by with_unfolding_all exact h
theorem wf_cnt (h : p.C e s) : wf (sCnt e s) p := by with_unfolding_all exact h
theorem wf_raise {c : Nat} (h : p.E ⟨c, .non⟩ e s) : wf (sRaise c e s) p := by with_unfolding_all exact h
theorem wf_raiseF {c : Nat} (h : wp (a e s) (fun w s1 => ∃ x, w = .d x ∧ p.E ⟨c, x⟩ e s1) (fun x s1 => p.E x e s1)) : wf (sRaiseF c a e s) p := by
  unfold sRaiseF
  refine wp_toF (wp_mono h (fun w s1 h => ?_) fun _ _ h => h)
  obtain ⟨x, rfl, h⟩ := h
  with_unfolding_all exact h
theorem wf_frz {i : Nat} {b : CS} (h : wf (b (frzV i e s).1 (frzV i e s).2) p) : wf (sFrz i b e s) p := by with_unfolding_all exact h
theorem wf_put {fv fa fi : CE} (h : wp (fv e s) (fun y s1 => wp (fa e s1) (fun w s2 => wp (fi e s2) (fun k s3 => ∃ j n z xs ys, w = .ref j ∧ k = .d (.int n) ∧ y = .d z ∧ s3.get j = some (.lst xs) ∧ setD xs n z = some ys ∧ p.N e (s3.put j (.lst ys))) (fun x s1 => p.E x e s1)) (fun x s1 => p.E x e s1)) (fun x s1 => p.E x e s1)) : wf (sPut fv fa fi e s) p := by
  unfold sPut
  refine wp_toF (wp_mono h (fun y s1 h => wp_toF (wp_mono h (fun w s2 h => wp_toF (wp_mono h (fun k s3 h => ?_) fun _ _ h => h)) fun _ _ h => h)) fun _ _ h => h)
  obtain ⟨j, n, z, xs, ys, rfl, rfl, rfl, h1, h2, h3⟩ := h
  dsimp only
  rw [h1]
  dsimp only
  rw [h2]
  with_unfolding_all exact h3
/-! ### loops -/
theorem wp_iVal {QI : Itm → S → Prop} (h : wp (a e s) (fun w s1 => (∃ x xs, w = .d x ∧ iterOf x = some xs ∧ QI (.all xs) s1) ∨ ∃ i xs, w = .ref i ∧ s1.get i = some (.lst xs) ∧ QI (.at_ i (xs.length + 1)) s1) E) : wp (iVal a e s) QI E := by
  unfold iVal
  refine wp_bind (wp_mono h (fun w s1 h => ?_) fun _ _ h => h)
  rcases h with ⟨x, xs, rfl, h1, h2⟩ | ⟨i, xs, rfl, h1, h2⟩
  · dsimp only
    rw [h1]
    with_unfolding_all exact h2
  · dsimp only
    rw [h1]
    with_unfolding_all exact h2
theorem wp_rg1 {QI : Itm → S → Prop} (h : wp (a e s) (fun w s1 => ∃ j, w = .d (.int j) ∧ okR j = true ∧ QI (.all (rangeL 0 j.toNat)) s1) E) : wp (iRg1 a e s) QI E := by
  unfold iRg1
  refine wp_bind (wp_mono h (fun w s1 h => ?_) fun _ _ h => h)
  obtain ⟨j, rfl, h1, h2⟩ := h
  dsimp only
  rw [if_pos h1]
  with_unfolding_all exact h2
theorem wp_rg2 {QI : Itm → S → Prop} (h : wp (a e s) (fun w s1 => wp (b e s1) (fun u s2 => ∃ i j, w = .d (.int i) ∧ u = .d (.int j) ∧ (okR i && okR j) = true ∧ QI (.all (rangeL i (j - i).toNat)) s2) E) E) : wp (iRg2 a b e s) QI E := by
  unfold iRg2
  refine wp_bind (wp_mono h (fun w s1 h => wp_bind (wp_mono h (fun u s2 h => ?_) fun _ _ h => h)) fun _ _ h => h)
  obtain ⟨i, j, rfl, rfl, h1, h2⟩ := h
  dsimp only
  rw [if_pos h1]
  with_unfolding_all exact h2
theorem wp_rg3 {QI : Itm → S → Prop} (h : wp (a e s) (fun w s1 => wp (b e s1) (fun u s2 => wp (c e s2) (fun v s3 => ∃ i j k, w = .d (.int i) ∧ u = .d (.int j) ∧ v = .d (.int k) ∧ (okR i && okR j && decide (k ≠ 0) && decide (k.natAbs < 1073741824)) = true ∧ QI (.all (rangeC i k (turnsOf i j k))) s3) E) E) E) : wp (iRg3 a b c e s) QI E := by
  unfold iRg3
  refine wp_bind (wp_mono h (fun w s1 h => wp_bind (wp_mono h (fun u s2 h => wp_bind (wp_mono h (fun v s3 h => ?_) fun _ _ h => h)) fun _ _ h => h)) fun _ _ h => h)
  obtain ⟨i, j, k, rfl, rfl, rfl, h1, h2⟩ := h
  dsimp only
  rw [if_pos h1]
  with_unfolding_all exact h2
theorem wp_enum {QI : Itm → S → Prop} (h : wp (a e s) (fun w s1 => ∃ x xs, w = .d x ∧ itemsOf x = some xs ∧ QI (.all (numbered 0 xs)) s1) E) : wp (iEnum a e s) QI E := by
  unfold iEnum
  refine wp_bind (wp_mono h (fun w s1 h => ?_) fun _ _ h => h)
  obtain ⟨x, xs, rfl, h1, h2⟩ := h
  dsimp only
  rw [h1]
  with_unfolding_all exact h2
theorem wf_for {it : CI} {tg : TG} {b : CS} (h : wp (it e s) (fun J s1 => match J with
    | .all xs => wf (forAll tg b xs e s1) p
    | .at_ i n => wf (forAt tg b i n 0 e s1) p) (fun x s1 => p.E x e s1)) : wf (sFor it tg b e s) p := by
  unfold sFor
  refine wp_toF (wp_mono h (fun J s1 h => ?_) fun _ _ h => h)
  cases J <;> with_unfolding_all exact h
/-- a loop over items that stand: I of what was walked -/
theorem wf_all0 {tg : TG} {b : CS} (I : List D → Env → S → Prop) (all : List D) : ∀ (xs pre : List D) (e : Env) (s : S), all = pre ++ xs → I pre e s →
    (∀ (pre : List D) (x : D) (post : List D) (e : Env) (s : S), all = pre ++ x :: post → I pre e s → wp (tg (.d x) e s) (fun e1 s1 => wf (b e1 s1) { p with N := I (pre ++ [x]), C := I (pre ++ [x]), B := p.N }) (fun x s1 => p.E x e s1)) → (∀ e s, I all e s → p.N e s) → wf (forAll tg b xs e s) p
  | [], pre, e, s, ha, h, _, hn => wf_nxv (hn e s (by rw [ha]; simpa using h))
  | x :: r, pre, e, s, ha, h, ht, hn => by
    unfold forAll
    refine wp_toF (wp_mono (ht pre x r e s ha h) (fun e1 s1 h1 => ?_) fun _ _ h => h)
    have rest : ∀ e2 s2, I (pre ++ [x]) e2 s2 → wf (forAll tg b r e2 s2) p := fun e2 s2 h2 => wf_all0 I all r (pre ++ [x]) e2 s2 (by simpa using ha) h2 ht hn
    unfold turnEnd
    revert h1
    cases b e1 s1 with
    | nx e2 s2 => with_unfolding_all exact rest e2 s2
    | cnt e2 s2 => with_unfolding_all exact rest e2 s2
    | brk e2 s2 => with_unfolding_all exact fun h => h
    | ret w s2 => with_unfolding_all exact fun h => h
    | exc x e2 s2 => with_unfolding_all exact fun h => h
    | bad => with_unfolding_all exact fun h => h
theorem wf_all {tg : TG} {b : CS} {xs : List D} (I : List D → Env → S → Prop) (h : I [] e s)
    (ht : ∀ (pre : List D) (x : D) (post : List D) (e : Env) (s : S), xs = pre ++ x :: post → I pre e s → wp (tg (.d x) e s) (fun e1 s1 => wf (b e1 s1) { p with N := I (pre ++ [x]), C := I (pre ++ [x]), B := p.N }) (fun x s1 => p.E x e s1)) (hn : ∀ e s, I xs e s → p.N e s) : wf (forAll tg b xs e s) p :=
  wf_all0 I xs xs [] e s rfl h ht hn
/-- n turns: I of how many were made -/
theorem wf_turns {tg : TG} {b : CS} {xs : List D} (I : Nat → Env → S → Prop) (h : I 0 e s)
    (ht : ∀ (k : Nat) (x : D) (e : Env) (s : S), k < xs.length → xs[k]? = some x → I k e s → wp (tg (.d x) e s) (fun e1 s1 => wf (b e1 s1) { p with N := I (k + 1), C := I (k + 1), B := p.N }) (fun x s1 => p.E x e s1)) (hn : ∀ e s, I xs.length e s → p.N e s) : wf (forAll tg b xs e s) p := by
  refine wf_all (fun pre => I pre.length) h (fun pre x post e s ha hI => ?_) hn
  have := ht pre.length x e s (by rw [ha]; simp) (by rw [ha]; simp) hI
  simpa only [List.length_append, List.length_cons, List.length_nil, Nat.zero_add] using this
/-- the same by a state that is folded -/
theorem wf_fold {α : Type} {tg : TG} {b : CS} (I : α → Env → S → Prop) (f : α → D → α) {xs : List D} {a0 : α} (h : I a0 e s)
    (ht : ∀ (a : α) (x : D) (e : Env) (s : S), I a e s → x ∈ xs → wp (tg (.d x) e s) (fun e1 s1 => wf (b e1 s1) { p with N := I (f a x), C := I (f a x), B := p.N }) (fun x s1 => p.E x e s1)) (hn : ∀ e s, I (xs.foldl f a0) e s → p.N e s) : wf (forAll tg b xs e s) p := by
  refine wf_all (fun pre e s => I (pre.foldl f a0) e s) h (fun pre x post e s ha h => ?_) hn
  have := ht _ x e s h (by rw [ha]; simp)
  simpa only [List.foldl_append, List.foldl_cons, List.foldl_nil] using this
/-- a while loop: a measure -/
theorem wf_while {t : CT} {b : CS} {F : Nat} (I : Nat → Env → S → Prop) (h : ∃ n, n < F ∧ I n e s)
    (ht : ∀ (n : Nat) (e : Env) (s : S), I n e s → wp (t e s) (fun x s1 => (x = true → wf (b e s1) { p with N := fun e2 s2 => ∃ m, m < n ∧ I m e2 s2, C := fun e2 s2 => ∃ m, m < n ∧ I m e2 s2, B := p.N }) ∧ (x = false → p.N e s1)) (fun x s1 => p.E x e s1)) : wf (sWhile F t b e s) p := by
  obtain ⟨n, hn, h⟩ := h
  unfold sWhile
  have main : ∀ (F n : Nat) (e : Env) (s : S), n < F → I n e s → wf (whileN t b F e s) p := by
    intro F
    induction F with
    | zero => intro n e s hn; with_unfolding_all exact absurd hn (Nat.not_lt_zero _)
    | succ F ih =>
      intro n e s hn h
      unfold whileN
      refine wp_toF (wp_mono (ht n e s h) (fun x s1 h1 => ?_) fun _ _ h => h)
      cases x with
      | false => with_unfolding_all exact h1.2 rfl
      | true =>
        have h1 := h1.1 rfl
        have rest : ∀ e2 s2, (∃ m, m < n ∧ I m e2 s2) → wf (whileN t b F e2 s2) p := fun e2 s2 ⟨m, hm, h2⟩ => ih m e2 s2 (by omega) h2
        show wf (turnEnd (b e s1) _) p
        unfold turnEnd
        revert h1
        cases b e s1 with
        | nx e2 s2 => with_unfolding_all exact rest e2 s2
        | cnt e2 s2 => with_unfolding_all exact rest e2 s2
        | brk e2 s2 => with_unfolding_all exact fun h => h
        | ret w s2 => with_unfolding_all exact fun h => h
        | exc x e2 s2 => with_unfolding_all exact fun h => h
        | bad => with_unfolding_all exact fun h => h
  with_unfolding_all exact main F n e s hn h
/-! ### comprehensions -/
theorem wp_lc {it : CI} {tg : TG} {t : CT} {el : CE} {vs : List Nat} (h : wp (it e s) (fun J s1 => ∃ xs, J = .all xs ∧ wp (lcAll tg t el (wipeE e vs) xs s1) (fun ys s2 => ys.length ≤ LIM ∧ QD ys s2) (fun _ _ => False)) E) : wp (lLc it tg t el vs e s) QD E := by
  unfold lLc
  refine wp_bind (wp_mono h (fun J s1 h => ?_) fun _ _ h => h)
  obtain ⟨xs, rfl, h⟩ := h
  dsimp only
  unfold pre
  revert h
  cases lcAll tg t el (wipeE e vs) xs s1 with
  | ok ys s2 =>
    intro h
    have h : ys.length ≤ LIM ∧ QD ys s2 := by with_unfolding_all exact h
    show wp (if ([] ++ ys).length ≤ LIM then _ else _) _ _
    rw [List.nil_append, if_pos h.1]
    with_unfolding_all exact h.2
  | exc x s2 => with_unfolding_all exact fun h => h.elim
  | bad => with_unfolding_all exact fun h => h.elim
/-- each item gives one, the store a state -/
theorem wp_lcAll {tg : TG} {el : CE} {e0 : Env} (I : List D → List D → S → Prop) : ∀ (xs pre ys : List D) (s : S), I pre ys s →
    (∀ (pre ys : List D) (x : D) (s : S), I pre ys s → x ∈ xs → wp (tg (.d x) e0 s) (fun e1 s1 => wp (el e1 s1) (fun w s2 => ∃ y, w = .d y ∧ I (pre ++ [x]) (ys ++ [y]) s2) (fun _ _ => False)) (fun _ _ => False)) →
    wp (lcAll tg yes el e0 xs s) (fun zs s2 => I (pre ++ xs) (ys ++ zs) s2) (fun _ _ => False)
  | [], pre, ys, s, h, _ => by
    with_unfolding_all show I (pre ++ []) (ys ++ []) s
    simpa using h
  | x :: r, pre, ys, s, h, ht => by
    unfold lcAll
    have h1 := ht pre ys x s h List.mem_cons_self
    revert h1
    cases tg (.d x) e0 s with
    | bad => with_unfolding_all exact fun h => h.elim
    | exc _ _ => with_unfolding_all exact fun h => h.elim
    | ok e1 s1 =>
      intro h1
      dsimp only [RS.ck, yes]
      rw [if_pos rfl]
      revert h1
      with_unfolding_all show wp (el e1 s1) _ _ → _
      cases el e1 s1 with
      | bad => with_unfolding_all exact fun h => h.elim
      | exc _ _ => with_unfolding_all exact fun h => h.elim
      | ok w s2 =>
        intro hq
        obtain ⟨y, rfl, h2⟩ := wp_okE hq
        have h3 := wp_lcAll (tg := tg) (el := el) (e0 := e0) I r (pre ++ [x]) (ys ++ [y]) s2 h2 (fun pre ys z s h hz => ht pre ys z s h (List.mem_cons_of_mem _ hz))
        dsimp only
        revert h3
        cases lcAll tg yes el e0 r s2 with
        | bad => with_unfolding_all exact fun h => h
        | exc _ _ => with_unfolding_all exact fun h => h.elim
        | ok zs s3 =>
          intro h3
          with_unfolding_all show I (pre ++ x :: r) (ys ++ y :: zs) s3
          have h3 : I (pre ++ [x] ++ r) (ys ++ [y] ++ zs) s3 := by with_unfolding_all exact h3
          simpa using h3
/-- each item gives f of it, the store stays -/
theorem wp_lcMap {tg : TG} {el : CE} {e0 : Env} (f : D → D) {xs : List D} (ht : ∀ x ∈ xs, wp (tg (.d x) e0 s) (fun e1 s1 => wp (el e1 s1) (fun w s2 => w = .d (f x) ∧ s2 = s) (fun _ _ => False)) (fun _ _ => False)) (h : QD (xs.map f) s) : wp (lcAll tg yes el e0 xs s) QD E := by
  refine wp_mono (wp_lcAll (fun pre ys s2 => ys = pre.map f ∧ s2 = s) xs [] [] s ⟨rfl, rfl⟩ fun pre ys x s1 hI hx => ?_) (fun zs s2 hz => ?_) fun _ _ h => h.elim
  · obtain ⟨rfl, rfl⟩ := hI
    refine wp_mono (ht x hx) (fun e1 s1 h1 => wp_mono h1 (fun w s2 h2 => ?_) fun _ _ h => h) fun _ _ h => h
    obtain ⟨rfl, rfl⟩ := h2
    with_unfolding_all exact ⟨_, rfl, by simp, rfl⟩
  · obtain ⟨h1, rfl⟩ := hz
    simp only [List.nil_append] at h1
    rw [h1]
    with_unfolding_all exact h
/-! ### defs -/
theorem runP_of {b : CS} {n k : Nat} {xs : List D} {y : D} (hl : xs.length = k) (h : wf (b (start n (xs.map .d)) S.nil) { N := fun _ _ => y = .non, R := fun w _ => w = .d y }) : runP b n k xs = .ok y := by
  unfold runP
  rw [if_pos hl]
  revert h
  cases b (start n (xs.map .d)) S.nil with
  | nx e s =>
    intro h
    cases (show y = .non by with_unfolding_all exact h)
    rfl
  | ret w s =>
    intro h
    cases (show w = .d y by with_unfolding_all exact h)
    rfl
  | brk _ _ => with_unfolding_all exact fun h => h.elim
  | cnt _ _ => with_unfolding_all exact fun h => h.elim
  | exc _ _ _ => with_unfolding_all exact fun h => h.elim
  | bad => with_unfolding_all exact fun h => h.elim
/-- by what is wanted of the result -/
@[irreducible] def wR (r : R D) (Q : D → Prop) (E : Exn → Prop) : Prop := match r with
  | .ok y => Q y
  | .exc x => E x
  | .bad => False
theorem runP_w {b : CS} {n k : Nat} {xs : List D} {Q : D → Prop} {E : Exn → Prop} (hl : xs.length = k) (h : wf (b (start n (xs.map .d)) S.nil) { N := fun _ _ => Q .non, R := fun w _ => ∃ y, w = .d y ∧ Q y, E := fun x _ _ => E x }) : wR (runP b n k xs) Q E := by
  unfold runP
  rw [if_pos hl]
  revert h
  cases b (start n (xs.map .d)) S.nil with
  | nx e s => with_unfolding_all exact fun h => h
  | ret w s =>
    intro h
    obtain ⟨y, rfl, hy⟩ : ∃ y, w = .d y ∧ Q y := by with_unfolding_all exact h
    with_unfolding_all exact hy
  | brk _ _ => with_unfolding_all exact fun h => h.elim
  | cnt _ _ => with_unfolding_all exact fun h => h.elim
  | exc _ _ _ => with_unfolding_all exact fun h => h
  | bad => with_unfolding_all exact fun h => h.elim
theorem runI_w {b : CS} {n k : Nat} {ws : List W} {Q : W → S → Prop} {E : Exn → S → Prop} (hl : ws.length = k) (h : wf (b (start n ws) s) { N := fun _ s1 => Q (.d .non) (s1.sweep s.nx (.d .non)), R := fun w s1 => Q w (s1.sweep s.nx w), E := fun x _ s1 => E x (s1.sweep s.nx (.d .non)) }) : wp (runI b n k ws s) Q E := by
  unfold runI
  rw [if_pos hl]
  revert h
  cases b (start n ws) s with
  | nx e s => with_unfolding_all exact fun h => h
  | ret w s => with_unfolding_all exact fun h => h
  | brk _ _ => with_unfolding_all exact fun h => h.elim
  | cnt _ _ => with_unfolding_all exact fun h => h.elim
  | exc _ _ _ => with_unfolding_all exact fun h => h
  | bad => with_unfolding_all exact fun h => h.elim
end
/-! ### targets -/
section
variable {e : Env} {s : S} {w : W} {i : Nat} {QE : Env → S → Prop} {E : Exn → S → Prop} {gs : List TG} {g : TG}
theorem wp_gNm (h : QE (e.set i (some w)) s) : wp (gNm i w e s) QE E := by with_unfolding_all exact h
theorem wp_gTp {u : D} (h : ∃ xs, itemsOf u = some xs ∧ xs.length = gs.length ∧ wp (gEach gs xs e s) QE E) : wp (gTp gs (.d u) e s) QE E := by
  obtain ⟨xs, h1, h2, h3⟩ := h
  unfold gTp
  dsimp only
  rw [h1]
  dsimp only
  rw [if_pos h2]
  with_unfolding_all exact h3
theorem wp_gEach_nil (h : QE e s) : wp (gEach [] [] e s) QE E := by with_unfolding_all exact h
theorem wp_gEach {x : D} {xs : List D} (h : wp (g (.d x) e s) (fun e1 s1 => wp (gEach gs xs e1 s1) QE E) E) : wp (gEach (g :: gs) (x :: xs) e s) QE E := wp_bind h
theorem wp_gAll_nil (h : QE e s) : wp (gAll [] [] e s) QE E := by with_unfolding_all exact h
theorem wp_gAll {ws : List W} (h : wp (g w e s) (fun e1 s1 => wp (gAll gs ws e1 s1) QE E) E) : wp (gAll (g :: gs) (w :: ws) e s) QE E := wp_bind h
theorem wf_parT {p : Po} {n : Nat} {a : CA} (h : wp (a e s) (fun ws s1 => ws.length = n ∧ wp (gAll gs ws e s1) p.N (fun x s2 => p.E x e s2)) (fun x s1 => p.E x e s1)) : wf (sParT n a gs e s) p := by
  unfold sParT
  refine wp_toF (wp_mono h (fun ws s1 h => ?_) fun _ _ h => h)
  rw [if_pos h.1]
  with_unfolding_all exact wp_toF (wp_mono h.2 (fun _ _ h => h) fun _ _ h => h)
end
theorem truths_bl : ∀ bs : List Bool, truths (bs.map .bl) = some bs
  | [] => rfl
  | b :: bs => by
    show (match truths (bs.map .bl) with | some bs => some (b :: bs) | none => none) = _
    rw [truths_bl bs]
theorem bAll_bl (bs : List Bool) : bAll [.lst (bs.map .bl)] = some (.bl (bs.all id)) := by
  show (match truths (bs.map .bl) with | some bs => _ | none => _) = _
  rw [truths_bl]
theorem bAny_bl (bs : List Bool) : bAny [.lst (bs.map .bl)] = some (.bl (bs.any id)) := by
  show (match truths (bs.map .bl) with | some bs => _ | none => _) = _
  rw [truths_bl]
theorem rangeL_mem {lo : Int} {n : Nat} {x : D} (h : x ∈ rangeL lo n) : ∃ k : Nat, k < n ∧ x = .int (lo + k) := by
  unfold rangeL at h
  obtain ⟨k, hk, rfl⟩ := List.mem_map.mp h
  with_unfolding_all exact ⟨k, List.mem_range.mp hk, rfl⟩
theorem rangeL_get {lo : Int} {n k : Nat} {x : D} (h : (rangeL lo n)[k]? = some x) : k < n ∧ x = .int (lo + k) := by
  unfold rangeL at h
  rw [List.getElem?_map] at h
  cases q : (List.range n)[k]? with
  | none => rw [q] at h; cases h
  | some j =>
    rw [q] at h
    cases h
    have h1 := (List.getElem?_eq_some_iff.mp q).1
    rw [List.length_range] at h1
    rw [List.getElem?_range h1] at q
    cases q
    with_unfolding_all exact ⟨h1, rfl⟩
theorem rangeL_len {lo : Int} {n : Nat} : (rangeL lo n).length = n := by simp [rangeL]
theorem numbered_mem : ∀ {xs : List D} {n : Nat} {x : D}, x ∈ numbered n xs → ∃ (k : Nat) (y : D), n ≤ k ∧ k < n + xs.length ∧ xs[k - n]? = some y ∧ x = .tup [.int (k : Int), y]
  | [], n, x, h => by simp [numbered] at h
  | y :: ys, n, x, h => by
    rcases List.mem_cons.mp (show x ∈ D.tup [.int (n : Int), y] :: numbered (n + 1) ys from h) with rfl | h
    · with_unfolding_all exact ⟨n, y, Nat.le_refl _, by simp, by simp, rfl⟩
    · obtain ⟨k, z, h1, h2, h3, h4⟩ := numbered_mem h
      refine ⟨k, z, by omega, by simp only [List.length_cons]; omega, ?_, h4⟩
      have : k - n = (k - (n + 1)) + 1 := by omega
      rw [this]
      simpa using h3
theorem atD_int {zs : List Int} {i : Int} (h : 0 ≤ i) (h2 : i < zs.length) : oIdxA (.lst (zs.map .int)) (.int i) = some (.int (zs.getD i.toNat 0)) := by
  show atD (zs.map D.int) i = _
  unfold atD
  rw [if_pos h, List.getElem?_map, List.getElem?_eq_getElem (by omega), List.getD_eq_getElem?_getD, List.getElem?_eq_getElem (by omega)]
  rfl
theorem setD_int {zs : List Int} {i y : Int} (h : 0 ≤ i) (h2 : i < zs.length) : setD (zs.map .int) i (.int y) = some ((zs.set i.toNat y).map .int) := by
  unfold setD
  rw [if_pos h, if_pos (by rw [List.length_map]; omega), List.map_set]
theorem rangeC_down {lo hi : Int} {x : D} (h : x ∈ rangeC lo (-1) (turnsOf lo hi (-1))) : ∃ a, x = .int a ∧ hi < a ∧ a ≤ lo := by
  unfold rangeC at h
  obtain ⟨k, hk, rfl⟩ := List.mem_map.mp h
  have hk := List.mem_range.mp hk
  unfold turnsOf at hk
  rw [if_neg (by decide)] at hk
  split at hk
  · simp only [Int.neg_neg, Int.ediv_one] at hk
    refine ⟨_, rfl, ?_, ?_⟩ <;> omega
  · with_unfolding_all exact absurd hk (Nat.not_lt_zero _)
theorem allInt_eq {zs : List Int} {xs : List D} (h : ∀ x ∈ xs, ∃ i : Int, x = .int i) : ∃ zs : List Int, xs = zs.map .int := by
  induction xs with
  | nil => with_unfolding_all exact ⟨[], rfl⟩
  | cons x xs ih =>
    obtain ⟨i, rfl⟩ := h x List.mem_cons_self
    obtain ⟨zs, rfl⟩ := ih fun x hx => h x (List.mem_cons_of_mem _ hx)
    with_unfolding_all exact ⟨i :: zs, rfl⟩
/-! ### numbers -/
theorem oMod_int {i j : Int} (h : 0 < j) : oMod (.int i) (.int j) = some (.int (i % j)) := if_pos h
theorem oDiv_int {i j : Int} (h : 0 < j) (h2 : j < 18446744073709551616) : oDiv (.int i) (.int j) = some (.int (i / j)) := by
  have : j.natAbs.log2 < 9000 := by
    have h3 : j.natAbs < 2 ^ 64 := by omega
    have : j.natAbs.log2 < 64 := by
      rcases Nat.eq_zero_or_pos j.natAbs with z | z
      · rw [z]; decide
      · with_unfolding_all exact (Nat.log2_lt (by omega)).mpr h3
    omega
  show (if _ then _ else _) = _
  rw [if_pos (by simp [h, this])]
theorem oMul_int {i j : Int} (h : (-18446744073709551616 < i ∧ i < 18446744073709551616) ∨ (-18446744073709551616 < j ∧ j < 18446744073709551616)) : oMul (.int i) (.int j) = some (.int (i * j)) := by
  show (if _ then _ else _) = _
  rw [if_pos]
  simp only [Bool.or_eq_true, decide_eq_true_eq]
  rcases h with h | h
  · with_unfolding_all exact .inl (.inl (by omega))
  · with_unfolding_all exact .inl (.inr (by omega))
theorem bDivmod_int {i j : Int} (h : 0 < j) (h2 : j < 1073741824) : bDivmod [.int i, .int j] = some (.tup [.int (i / j), .int (i % j)]) := by
  show (if _ then _ else _) = _
  rw [if_pos (by simp [h, h2])]
theorem okR_int {i : Int} (h : -4611686018427387904 ≤ i) (h2 : i < 4611686018427387904) : okR i = true := by
  unfold okR
  simp [h, h2]
theorem okR2 {i j : Int} (h : -4611686018427387904 ≤ i) (h2 : i < 4611686018427387904) (h3 : -4611686018427387904 ≤ j) (h4 : j < 4611686018427387904) : (okR i && okR j) = true := by
  rw [okR_int h h2, okR_int h3 h4]; rfl
theorem okR3 {i j k : Int} (h : -4611686018427387904 ≤ i) (h2 : i < 4611686018427387904) (h3 : -4611686018427387904 ≤ j) (h4 : j < 4611686018427387904) (h5 : k ≠ 0) (h6 : k.natAbs < 1073741824) : (okR i && okR j && decide (k ≠ 0) && decide (k.natAbs < 1073741824)) = true := by
  rw [okR_int h h2, okR_int h3 h4, decide_eq_true h5, decide_eq_true h6]; rfl
theorem cutD_map {α β : Type} (f : α → β) (xs : List α) (l h : Option Int) : cutD (xs.map f) l h = (cutD xs l h).map f := by
  unfold cutD
  rw [List.length_map, List.map_take, List.map_drop]
theorem wR_ok {r : R D} {Q : D → Prop} (h : wR r Q (fun _ => False)) : ∃ y, r = .ok y ∧ Q y := by
  cases r with
  | ok y => with_unfolding_all exact ⟨y, rfl, h⟩
  | exc _ => with_unfolding_all exact h.elim
  | bad => with_unfolding_all exact h.elim
theorem asDs_star {ws : List W} : ∀ {xs zs : List D}, asDs ws = some zs → asDs (xs.map W.d ++ ws) = some (xs ++ zs)
  | [], zs, h => h
  | x :: xs, zs, h => by
    show (match asDs (xs.map W.d ++ ws) with | some ys => some (x :: ys) | none => none) = _
    rw [asDs_star h]
    rfl
theorem asDs_map (xs : List D) : asDs (xs.map W.d) = some xs := by
  have := asDs_star (ws := []) (xs := xs) (zs := []) rfl
  simpa using this
theorem eqv_int (i j : Int) : eqv (.int i) (.int j) = (i == j) := rfl
theorem bAll_fun (p : D → Bool) (xs : List D) : bAll [.lst (xs.map fun x => .bl (p x))] = some (.bl (xs.all p)) := by
  have := bAll_bl (xs.map p)
  rw [List.map_map] at this
  rw [show (xs.map fun x => D.bl (p x)) = xs.map (D.bl ∘ p) from rfl, this, List.all_map]
  rfl
theorem bAny_fun (p : D → Bool) (xs : List D) : bAny [.lst (xs.map fun x => .bl (p x))] = some (.bl (xs.any p)) := by
  have := bAny_bl (xs.map p)
  rw [List.map_map] at this
  rw [show (xs.map fun x => D.bl (p x)) = xs.map (D.bl ∘ p) from rfl, this, List.any_map]
  rfl
theorem cutD_len {α : Type} (xs : List α) (l h : Option Int) : (cutD xs l h).length ≤ xs.length := by
  unfold cutD
  rw [List.length_take, List.length_drop]
  omega
/-! ### the store -/
theorem pget_add_same {s : S} {o : O} : (s.add o).get s.nx = some o := by simp [S.add, S.get, getO]
theorem pget_add {s : S} {o : O} {i : Nat} (h : i ≠ s.nx) : (s.add o).get i = s.get i := by simp [S.add, S.get, getO, h]
theorem pgetO_setO {i j : Nat} {o : O} : ∀ l : List (Nat × O), getO j (setO i o l) = if j = i then (getO i l).map fun _ => o else getO j l
  | [] => by by_cases h : j = i <;> simp [setO, getO, h]
  | (k, u) :: r => by
    by_cases h : i = k
    · subst h
      by_cases hj : j = i
      · simp [setO, getO, hj]
      · simp [setO, getO, hj]
    · rw [setO, if_neg h]
      by_cases hj : j = i
      · subst hj
        simp only [getO, if_neg h, pgetO_setO r, if_pos]
      · by_cases hk : j = k
        · rw [if_neg hj, getO, getO, if_pos hk, if_pos hk]
        · rw [if_neg hj, getO, getO, if_neg hk, if_neg hk, pgetO_setO r, if_neg hj]
theorem pget_put_same {s : S} {i : Nat} {o u : O} (h : s.get i = some u) : (s.put i o).get i = some o := by
  unfold S.put S.get at *
  rw [pgetO_setO, if_pos rfl, h]
  rfl
theorem pget_put {s : S} {i j : Nat} {o : O} (h : j ≠ i) : (s.put i o).get j = s.get j := by
  unfold S.put S.get
  rw [pgetO_setO, if_neg h]
theorem pgetO_delO {i j : Nat} : ∀ l : List (Nat × O), getO j (delO i l) = if j = i then none else getO j l
  | [] => by simp [delO, getO]
  | (k, u) :: r => by
    by_cases h : i = k
    · subst h
      rw [delO, if_pos rfl, pgetO_delO r]
      by_cases hj : j = i
      · rw [if_pos hj, if_pos hj]
      · rw [if_neg hj, if_neg hj, getO, if_neg hj]
    · rw [delO, if_neg h]
      by_cases hj : j = i
      · subst hj
        rw [getO, if_neg h, pgetO_delO r, if_pos rfl, if_pos rfl]
      · by_cases hk : j = k
        · rw [if_neg hj, getO, getO, if_pos hk, if_pos hk]
        · rw [if_neg hj, getO, getO, if_neg hk, if_neg hk, pgetO_delO r, if_neg hj]
theorem pget_del_same {s : S} {i : Nat} : (s.del i).get i = none := by
  unfold S.del S.get
  rw [pgetO_delO, if_pos rfl]
theorem pget_del {s : S} {i j : Nat} (h : j ≠ i) : (s.del i).get j = s.get j := by
  unfold S.del S.get
  rw [pgetO_delO, if_neg h]
theorem pgetO_sweepO {n j : Nat} {w : W} : ∀ l : List (Nat × O), getO j (sweepO n w l) = if decide (j < n) || isRef j w then getO j l else none
  | [] => by simp [sweepO, getO]
  | (k, u) :: r => by
    by_cases h : (decide (k < n) || isRef k w) = true
    · rw [sweepO, if_pos h]
      by_cases hk : j = k
      · subst hk
        rw [getO, getO, if_pos rfl, if_pos rfl, if_pos h]
      · rw [getO, if_neg hk, pgetO_sweepO r, getO, if_neg hk]
    · rw [sweepO, if_neg h, pgetO_sweepO r]
      by_cases hk : j = k
      · subst hk
        rw [if_neg h, if_neg h]
      · rw [getO, if_neg hk]
theorem pget_sweep {s : S} {n j : Nat} {w : W} : (s.sweep n w).get j = if decide (j < n) || isRef j w then s.get j else none := pgetO_sweepO _


section
variable {e : Env} {s : S} {w : W} {QE : Env → S → Prop} {QW : W → S → Prop} {E : Exn → S → Prop} {a v : CE} {g : CA} {p : Po} {ix : Nat → Option Nat} {c : Nat}
theorem wp_gFld (h : wp (a e s) (fun x s1 => ∃ j c fs i, x = .ref j ∧ s1.get j = some (.ins c fs) ∧ ix c = some i ∧ QE e (s1.put j (.ins c (putAt i w fs)))) (fun _ _ => False)) : wp (gFld ix a w e s) QE E := by
  unfold gFld
  revert h
  cases a e s with
  | bad => with_unfolding_all exact fun h => h.elim
  | exc _ _ => with_unfolding_all exact fun h => h.elim
  | ok x s1 =>
    intro hq
    obtain ⟨j, c, fs, i, rfl, h1, h2, h3⟩ := wp_okE hq
    dsimp only
    rw [h1]
    dsimp only
    rw [h2]
    with_unfolding_all exact h3
theorem wf_fld (h : wp (v e s) (fun x s1 => wp (a e s1) (fun w s2 => ∃ j c fs i, w = .ref j ∧ s2.get j = some (.ins c fs) ∧ ix c = some i ∧ p.N e (s2.put j (.ins c (putAt i x fs)))) (fun x s1 => p.E x e s1)) (fun x s1 => p.E x e s1)) : wf (sFld ix a v e s) p := by
  unfold sFld
  refine wp_toF (wp_mono h (fun x s1 h => wp_toF (wp_mono h (fun w s2 h => ?_) fun _ _ h => h)) fun _ _ h => h)
  obtain ⟨j, c, fs, i, rfl, h1, h2, h3⟩ := h
  dsimp only
  rw [h1]
  dsimp only
  rw [h2]
  with_unfolding_all exact h3
theorem wp_make {f : List W → S → RS W} (h : wp (g e s) (fun ws s1 => wp (f (.ref s1.nx :: ws) (s1.add (.ins c []))) (fun r s2 => r = .d .non ∧ QW (.ref s1.nx) s2) E) E) : wp (cMake c f g e s) QW E := by
  unfold cMake
  refine wp_bind (wp_mono h (fun ws s1 h => wp_bind (wp_mono h (fun r s2 h => ?_) fun _ _ h => h)) fun _ _ h => h)
  obtain ⟨rfl, h⟩ := h
  with_unfolding_all exact h
theorem wp_doneO (h : wp (a e s) (fun w s1 => match w with
    | .ref i => ∃ c fs x xs, s1.get i = some (.ins c fs) ∧ allD fs = some (x :: xs) ∧ QW (.d (.obj c (x :: xs))) (s1.del i)
    | .d x => QW (.d x) s1) E) : wp (cDoneO a e s) QW E := by
  unfold cDoneO
  refine wp_bind (wp_mono h (fun w s1 h => ?_) fun _ _ h => h)
  cases w with
  | d x => with_unfolding_all exact h
  | ref i =>
    obtain ⟨c, fs, x, xs, h1, h2, h3⟩ := h
    dsimp only
    rw [h1]
    dsimp only
    rw [h2]
    with_unfolding_all exact h3
end
/-- the bool of a result -/
def getB (r : R D) : Bool := match r with
  | .ok (.bl b) => b
  | _ => false
theorem getB_of {r : R D} (h : ∃ b : Bool, r = .ok (.bl b)) : r = .ok (.bl (getB r)) := by
  obtain ⟨b, rfl⟩ := h
  rfl
@[irreducible] def bO (F : List D → R D) (xs : List D) : Bool := getB (F xs)
theorem bO_of {F : List D → R D} {xs : List D} (h : ∃ b : Bool, F xs = .ok (.bl b)) : F xs = .ok (.bl (bO F xs)) := by
  unfold bO
  with_unfolding_all exact getB_of h
@[irreducible] def dO (F : List D → R D) (xs : List D) : D := match F xs with
  | .ok y => y
  | _ => .non
theorem dO_of {F : List D → R D} {xs : List D} (h : ∃ y, F xs = .ok y) : F xs = .ok (dO F xs) := by
  obtain ⟨y, h⟩ := h
  unfold dO
  rw [h]
def getD' (r : R D) : D := match r with
  | .ok y => y
  | _ => .non
theorem noLsts_ints : ∀ zs : List Int, noLsts (zs.map .int) = true
  | [] => rfl
  | _ :: zs => by
    show (noLst (.int _) && noLsts (zs.map .int)) = true
    rw [noLsts_ints zs]
    rfl
theorem noLst_ints (zs : List Int) : noLst (.tup (zs.map .int)) = true := noLsts_ints zs
theorem setO_head {i : Nat} {o u : O} {r : List (Nat × O)} : setO i o ((i, u) :: r) = (i, o) :: r := by simp [setO]
theorem get_head {n i : Nat} {o : O} {r : List (Nat × O)} : S.get ⟨n, (i, o) :: r⟩ i = some o := by simp [S.get, getO]
theorem oMul_tup {a : List D} {k : Int} (h : 0 ≤ k) (h2 : k ≤ 1000) (h3 : a.length ≤ 1000) : oMul (.tup a) (.int k) = some (.tup (rep k.toNat a)) := by
  show (if _ then _ else _) = _
  rw [if_pos (by simp [h, h2, h3])]
theorem oMul_lst {a : List D} {k : Int} (h : -1000000 ≤ k) (h2 : k ≤ 1000000) (h3 : a.length * k.toNat ≤ 16777216) : oMul (.lst a) (.int k) = some (.lst (rep k.toNat a)) := by
  show (if _ then _ else _) = _
  rw [if_pos]
  simp only [Bool.and_eq_true, decide_eq_true_eq]
  refine ⟨⟨by omega, by omega⟩, h3⟩
theorem oAdd_tup {a b : List D} (h : a.length + b.length ≤ 16777216) : oAdd (.tup a) (.tup b) = some (.tup (a ++ b)) := if_pos h
theorem oAdd_lst {a b : List D} (h : a.length + b.length ≤ 16777216) : oAdd (.lst a) (.lst b) = some (.lst (a ++ b)) := if_pos h
theorem oAdd_str {a b : List Nat} (h : a.length + b.length ≤ 16777216) : oAdd (.str a) (.str b) = some (.str (a ++ b)) := if_pos h
theorem prep_len {α : Type} (n : Nat) (xs : List α) : (rep n xs).length = n * xs.length := by
  induction n with
  | zero => simp [rep]
  | succ n ih => rw [rep, List.length_append, ih, Nat.succ_mul]; omega
theorem get_keep {s : S} {n j : Nat} {w : W} (h : j < n) : (s.sweep n w).get j = s.get j := by
  rw [pget_sweep, if_pos (by simp [h])]
theorem wf_frzR {i j : Nat} {xs : List D} {b : CS} {e : Env} {s : S} {p : Po} (h1 : e[i]? = some (some (.ref j))) (h2 : s.get j = some (.lst xs)) (h : wf (b (e.set i (some (.d (.lst xs)))) (s.del j)) p) : wf (sFrz i b e s) p := by
  unfold sFrz frzV
  rw [h1]
  dsimp only
  rw [h2]
  with_unfolding_all exact h
theorem wf_frzD {i : Nat} {x : D} {b : CS} {e : Env} {s : S} {p : Po} (h1 : e[i]? = some (some (.d x))) (h : wf (b e s) p) : wf (sFrz i b e s) p := by
  unfold sFrz frzV
  rw [h1]
  with_unfolding_all exact h
theorem delO_head {i : Nat} {o : O} {r : List (Nat × O)} : delO i ((i, o) :: r) = delO i r := if_pos rfl
theorem del_mk {n i : Nat} {r : List (Nat × O)} : S.del ⟨n, r⟩ i = ⟨n, delO i r⟩ := rfl
theorem delO_nil {i : Nat} : delO i [] = [] := rfl
theorem wp_lc2Map {g : TG} {it1 : CI} {g1 : TG} {el : CE} {vs1 : List Nat} {e0 : Env} {s : S} (f : D → List D) : ∀ {xs : List D}
    (ht : ∀ x ∈ xs, wp (g (.d x) e0 s) (fun e1 s1 => wp (it1 e1 s1) (fun J s2 => ∃ ys, J = .all ys ∧ wp (lcAll g1 yes el (wipeE e1 vs1) ys s2) (fun zs s3 => zs = f x ∧ s3 = s) (fun _ _ => False)) (fun _ _ => False)) (fun _ _ => False)),
    wp (lcAll2 g it1 g1 el vs1 e0 xs s) (fun zs s3 => zs = (xs.map f).flatten ∧ s3 = s) (fun _ _ => False)
  | [], _ => by with_unfolding_all exact ⟨rfl, rfl⟩
  | x :: r, ht => by
    have h1 := ht x List.mem_cons_self
    have h2 := wp_lc2Map (g := g) (it1 := it1) (g1 := g1) (el := el) (vs1 := vs1) (e0 := e0) (s := s) f (xs := r) fun y hy => ht y (List.mem_cons_of_mem _ hy)
    unfold lcAll2
    revert h1
    cases g (.d x) e0 s with
    | bad => with_unfolding_all exact fun h => h.elim
    | exc _ _ => with_unfolding_all exact fun h => h.elim
    | ok e1 s1 =>
      intro h1
      dsimp only [RS.ck]
      revert h1
      with_unfolding_all show wp (it1 e1 s1) _ _ → _
      cases it1 e1 s1 with
      | bad => with_unfolding_all exact fun h => h.elim
      | exc _ _ => with_unfolding_all exact fun h => h.elim
      | ok J s2 =>
        intro hq
        obtain ⟨ys, rfl, h3⟩ := wp_okE hq
        dsimp only
        revert h3
        cases lcAll g1 yes el (wipeE e1 vs1) ys s2 with
        | bad => with_unfolding_all exact fun h => h.elim
        | exc _ _ => with_unfolding_all exact fun h => h.elim
        | ok zs s3 =>
          intro hq
          obtain ⟨rfl, rfl⟩ := wp_okE hq
          dsimp only
          revert h2
          cases lcAll2 g it1 g1 el vs1 e0 r s3 with
          | bad => with_unfolding_all exact fun h => h.elim
          | exc _ _ => with_unfolding_all exact fun h => h.elim
          | ok ws s4 =>
            intro hq
            obtain ⟨rfl, rfl⟩ := wp_okE hq
            with_unfolding_all exact ⟨rfl, rfl⟩
theorem wp_lc2 {it : CI} {tg : TG} {it1 : CI} {g1 : TG} {el : CE} {vs vs1 : List Nat} {e : Env} {s : S} {QD : List D → S → Prop} {E : Exn → S → Prop} (h : wp (it e s) (fun J s1 => ∃ xs, J = .all xs ∧ wp (lcAll2 tg it1 g1 el vs1 (wipeE e vs) xs s1) (fun ys s2 => ys.length ≤ LIM ∧ QD ys s2) (fun _ _ => False)) E) : wp (lLc2 it tg it1 g1 el vs vs1 e s) QD E := by
  unfold lLc2
  refine wp_bind (wp_mono h (fun J s1 h => ?_) fun _ _ h => h)
  obtain ⟨xs, rfl, h⟩ := h
  dsimp only
  unfold pre
  revert h
  cases lcAll2 tg it1 g1 el vs1 (wipeE e vs) xs s1 with
  | ok ys s2 =>
    intro h
    have h : ys.length ≤ LIM ∧ QD ys s2 := by with_unfolding_all exact h
    show wp (if ([] ++ ys).length ≤ LIM then _ else _) _ _
    rw [List.nil_append, if_pos h.1]
    with_unfolding_all exact h.2
  | exc x s2 => with_unfolding_all exact fun h => h.elim
  | bad => with_unfolding_all exact fun h => h.elim
theorem wR_eq {r T : R D} (h : wR r (fun y => T = .ok y) (fun x => T = .exc x)) : r = T := by
  cases r with
  | ok y => with_unfolding_all exact (show T = .ok y from h).symm
  | exc x => with_unfolding_all exact (show T = .exc x from h).symm
  | bad => with_unfolding_all exact h.elim
theorem wf_tryAs {mt : Nat → Option Bool} {b : CS} {i : Nat} {h : D → CE} {e : Env} {s : S} {p : Po} (hb : wf (b e s) { p with E := fun x e1 s1 => (mt x.c = some true ∧ wp (h x.a (e1.set i none) s1) p.R (fun _ _ => False)) ∨ (mt x.c = some false ∧ p.E x e1 s1) }) : wf (sTryAs mt b i h e s) p := by
  unfold sTryAs
  revert hb
  cases b e s with
  | nx e s => with_unfolding_all exact fun h => h
  | ret w s => with_unfolding_all exact fun h => h
  | brk _ _ => with_unfolding_all exact fun h => h
  | cnt _ _ => with_unfolding_all exact fun h => h
  | bad => with_unfolding_all exact fun h => h
  | exc x e1 s1 =>
    intro hb
    rcases wf_excE hb with ⟨h1, h2⟩ | ⟨h1, h2⟩
    · dsimp only
      rw [h1]
      dsimp only
      revert h2
      cases h x.a (e1.set i none) s1 with
      | ok w s2 => with_unfolding_all exact fun h => h
      | exc _ _ => with_unfolding_all exact fun h => h.elim
      | bad => with_unfolding_all exact fun h => h.elim
    · dsimp only
      rw [h1]
      with_unfolding_all exact h2
end Z
end

section
set_option Elab.async false
namespace Z
theorem wp_lcNil {tg : TG} {el : CE} {e0 : Env} {s : S} {QD : List D → S → Prop} {E : Exn → S → Prop} (h : QD [] s) : wp (lcAll tg yes el e0 [] s) QD E := by with_unfolding_all exact h
theorem wp_lcCons {tg : TG} {el : CE} {e0 : Env} {s : S} {x : D} {xs : List D} {QD : List D → S → Prop} {E : Exn → S → Prop} (h : wp (tg (.d x) e0 s) (fun e1 s1 => wp (el e1 s1) (fun w s2 => ∃ y, w = .d y ∧ wp (lcAll tg yes el e0 xs s2) (fun ys s3 => QD (y :: ys) s3) (fun _ _ => False)) (fun _ _ => False)) (fun _ _ => False)) : wp (lcAll tg yes el e0 (x :: xs) s) QD E := by
  unfold lcAll
  revert h
  cases tg (.d x) e0 s with
  | bad => with_unfolding_all exact fun h => h.elim
  | exc _ _ => with_unfolding_all exact fun h => h.elim
  | ok e1 s1 =>
    intro h
    dsimp only [RS.ck, yes]
    rw [if_pos rfl]
    revert h
    with_unfolding_all show wp (el e1 s1) _ _ → _
    cases el e1 s1 with
    | bad => with_unfolding_all exact fun h => h.elim
    | exc _ _ => with_unfolding_all exact fun h => h.elim
    | ok w s2 =>
      intro hq
      obtain ⟨y, rfl, h2⟩ := wp_okE hq
      dsimp only
      revert h2
      cases lcAll tg yes el e0 xs s2 with
      | bad => with_unfolding_all exact fun h => h.elim
      | exc _ _ => with_unfolding_all exact fun h => h.elim
      | ok zs s3 => with_unfolding_all exact fun h => h
end Z
end

section
set_option Elab.async false
set_option linter.all false
set_option maxRecDepth 100000
set_option maxHeartbeats 4000000
namespace K85
open Z
def tx0 : List Nat := [108, 101, 116, 116, 101, 114]
def tx1 : List Nat := [110, 111, 110, 101]
def tx2 : List Nat := (([97, 98, 99, 100, 101, 102, 103, 104, 105, 106, 107, 108, 109, 110, 111, 112, 113, 114, 115, 116] : List Nat) ++ ([117, 118, 119, 120, 121, 122, 48, 49, 50, 51, 52, 53, 54, 55, 56, 57, 32, 46, 44, 63] : List Nat) ++ ([33, 45, 10] : List Nat))
def tx3 : List Nat := [108, 111, 110, 103]
def tx4 : List Nat := [115, 105, 103, 110]
def tx5 : List Nat := [114, 101, 115, 116]
abbrev K_END : D := (.tup [(.str [101, 110, 100])])
abbrev K_LONG : D := (.tup [(.str [108, 111, 110, 103])])
abbrev K_MOST_DEGREE : D := (.int (6))
abbrev K_MOST_PARTS : D := (.int (3000))
abbrev K_MOST_ROWS : D := (.int (12))
abbrev K_MOST_SIGNS : D := (.int (400))
abbrev K_PRIMES : D := (.tup [(.int (2)), (.int (3)), (.int (5)), (.int (7)), (.int (11)), (.int (13))])
abbrev K_REST : D := (.tup [(.str [114, 101, 115, 116])])
abbrev K_SIGN : D := (.str [115, 105, 103, 110])
abbrev K_SIGNS : D := (.str (([97, 98, 99, 100, 101, 102, 103, 104, 105, 106, 107, 108, 109, 110, 111, 112, 113, 114, 115, 116] : List Nat) ++ ([117, 118, 119, 120, 121, 122, 48, 49, 50, 51, 52, 53, 54, 55, 56, 57, 32, 46, 44, 63] : List Nat) ++ ([33, 45, 10] : List Nat)))
def ix_own_lower : Nat → Option Nat := ixOf [(6, 0)]
def ix_own_m : Nat → Option Nat := ixOf [(6, 1)]
def ix_own_one : Nat → Option Nat := ixOf [(6, 2)]
def ix_own_q : Nat → Option Nat := ixOf [(6, 3)]
def ix_own_zero : Nat → Option Nat := ixOf [(6, 4)]
def subs : List (Nat × Nat × Bool) := [(1, 5, false), (4, 5, false), (3, 5, false), (2, 5, false), (5, 5, true)]
def sub : Nat → Nat → Option Bool := subOf subs
def f_is_whole : CS := sRet (cAnd (cIs .int (cVar 0)) (cNot (cIs .bool (cVar 0))))
def F_is_whole : List D → R D := runP f_is_whole 1 1
def f_is_within : CS := sRet (cAnd (cCallP F_is_whole (aCons (cVar 0) (aNil))) (cChain oLe oLe (cVar 1) (cVar 0) (cVar 2)))
def F_is_within : List D → R D := runP f_is_within 3 3
def f_digits_of : CS := sSeq (sAsg (cNew (lDisp (aNil))) (gNm 3)) (sSeq (sFor (iRg1 (cVar 2)) (gNm 4) (sSeq (sAsg (cBi bDivmod (aCons (cVar 1) (aCons (cVar 0) (aNil)))) (gTp [gNm 1, gNm 5])) (sExpr (cAppend (cVar 3) (cVar 5))))) (sRet (cBi bTuple (aCons (cVar 3) (aNil)))))
def F_digits_of : List D → R D := runP f_digits_of 6 3
def f_led_down : CS := sSeq (sPar (aCons (cNew (lList (cVar 1))) (aCons (cBi bLen (aCons (cVar 2) (aNil))) (aNil))) [gNm 4, gNm 5]) (sSeq (sFor (iRg3 (cOp oSub (cBi bLen (aCons (cVar 4) (aNil))) (cK (.int 1))) (cOp oSub (cVar 5) (cK (.int 1))) (cUn oNeg (cK (.int 1)))) (gNm 3) (sSeq (sFor (iEnum (cVar 2)) (gTp [gNm 6, gNm 7]) (sPut (cOp oMod (cOp oSub (cOp oIdxA (cVar 4) (cOp oAdd (cOp oSub (cVar 3) (cVar 5)) (cVar 6))) (cOp oMul (cOp oIdxA (cVar 4) (cVar 3)) (cVar 7))) (cVar 0)) (cVar 4) (cOp oAdd (cOp oSub (cVar 3) (cVar 5)) (cVar 6)))) (sPut (cK (.int 0)) (cVar 4) (cVar 3)))) (sRet (cSl (cVar 4) (pNone) (pSome (cVar 5)))))
def F_led_down : List D → R D := runP f_led_down 8 3
def f_many_words : CS := sSeq (sAsg (cK (.int 1)) (gNm 2)) (sSeq (sFor (iRg1 (cVar 1)) (gNm 3) (sAsg (cOp oMul (cVar 2) (cVar 0)) (gNm 2))) (sRet (cVar 2)))
def F_many_words : List D → R D := runP f_many_words 4 2
def f_has_factor : CS := sSeq (sFor (iRg1 (cCallP F_many_words (aCons (cVar 0) (aCons (cVar 2) (aNil))))) (gNm 3) (sIf (cTru (cBi bAll (aCons (cFrz (lLc (iVal (cCallP F_led_down (aCons (cVar 0) (aCons (cFrz (lDisp (aStar (cVar 1) (aCons (cK (.int 1)) (aNil))))) (aCons (cCallP F_digits_of (aCons (cVar 0) (aCons (cVar 3) (aCons (cVar 2) (aNil))))) (aNil)))))) (gNm 4) (yes) (cOp oEq (cVar 4) (cK (.int 0))) [4])) (aNil)))) (sRet (cK (.bl true))) (sNil))) (sRet (cK (.bl false)))
def F_has_factor : List D → R D := runP f_has_factor 5 3
def f_is_free_in : CS := sRet (cNot (cBi bAny (aCons (cFrz (lLc (iRg2 (cK (.int 1)) (cOp oAdd (cOp oDiv (cBi bLen (aCons (cVar 1) (aNil))) (cK (.int 2))) (cK (.int 1)))) (gNm 2) (yes) (cCallP F_has_factor (aCons (cVar 0) (aCons (cVar 1) (aCons (cVar 2) (aNil))))) [2])) (aNil))))
def F_is_free_in : List D → R D := runP f_is_free_in 3 2
def f_least_free : CS := sSeq (sFor (iRg2 (cIf (cTB (cOp oGt (cVar 1) (cK (.int 1)))) (cCallP F_many_words (aCons (cVar 0) (aCons (cOp oSub (cVar 1) (cK (.int 1))) (aNil)))) (cK (.int 0))) (cCallP F_many_words (aCons (cVar 0) (aCons (cVar 1) (aNil))))) (gNm 2) (sSeq (sAsg (cRev (cCallP F_digits_of (aCons (cVar 0) (aCons (cVar 2) (aCons (cVar 1) (aNil)))))) (gNm 3)) (sIf (cTru (cCallP F_is_free_in (aCons (cVar 0) (aCons (cVar 3) (aNil))))) (sRet (cVar 3)) (sNil)))) (sRet (cK .non))
def F_least_free : List D → R D := runP f_least_free 4 2
def f_Field___init__ : CS := sSeq (sIf (tOr (tNot (cTru (cCallP F_is_within (aCons (cVar 1) (aCons (cK (.int 0)) (aCons (cOp oIdxA (cK K_PRIMES) (cUn oNeg (cK (.int 1)))) (aNil))))))) (tOr (cTB (cOp oNin (cVar 1) (cK K_PRIMES))) (tNot (cTru (cCallP F_is_within (aCons (cVar 2) (aCons (cK (.int 1)) (aCons (cK K_MOST_DEGREE) (aNil))))))))) (sRaise 1) (sNil)) (sSeq (sParT 3 (aCons (cVar 1) (aCons (cVar 2) (aCons (cCallP F_least_free (aCons (cVar 1) (aCons (cVar 2) (aNil)))) (aNil)))) [gFld ix_own_q (cVar 0), gFld ix_own_m (cVar 0), gFld ix_own_lower (cVar 0)]) (sSeq (sFld ix_own_zero (cVar 0) (cOp oMul (cTup (aCons (cK (.int 0)) (aNil))) (cVar 2))) (sFld ix_own_one (cVar 0) (cOp oAdd (cTup (aCons (cK (.int 1)) (aNil))) (cOp oMul (cTup (aCons (cK (.int 0)) (aNil))) (cOp oSub (cVar 2) (cK (.int 1))))))))
def F_Field___init__ : List W → S → RS W := runI f_Field___init__ 3 3
def f__law_lt_cut : CS := sSeq (sParT 2 (aCons (cOp oMul (cVar 1) (cVar 0)) (aCons (cNew (lList (cVar 2))) (aNil))) [gNm 4, gNm 5]) (sSeq (sWhile WFUEL (cTB (cOp oGt (cOp oMod (cBi bInt (aCons (cBi bLen (aCons (cVar 5) (aNil))) (aNil))) (cVar 4)) (cK (.int 0)))) (sExpr (cAppend (cVar 5) (cK (.int 0))))) (sFrz 5 (sSeq (sAsg (cFrz (lLc (iRg1 (cOp oDiv (cBi bLen (aCons (cVar 5) (aNil))) (cVar 0))) (gNm 6) (yes) (cBi bTuple (aCons (cSl (cVar 5) (pSome (cOp oMul (cVar 6) (cVar 0))) (pSome (cOp oAdd (cOp oMul (cVar 6) (cVar 0)) (cVar 0)))) (aNil))) [6])) (gNm 3)) (sRet (cBi bTuple (aCons (cFrz (lLc (iRg1 (cOp oDiv (cBi bLen (aCons (cVar 3) (aNil))) (cVar 1))) (gNm 6) (yes) (cBi bTuple (aCons (cSl (cVar 3) (pSome (cOp oMul (cVar 6) (cVar 1))) (pSome (cOp oAdd (cOp oMul (cVar 6) (cVar 1)) (cVar 1)))) (aNil))) [6])) (aNil)))))))
def F__law_lt_cut : List D → R D := runP f__law_lt_cut 7 3
def f_is_base : CS := sRet (cCallP F_is_within (aCons (cVar 1) (aCons (cK (.int 0)) (aCons (cOp oSub (cVar 0) (cK (.int 1))) (aNil)))))
def F_is_base : List D → R D := runP f_is_base 2 2
def f_is_word_in : CS := sSeq (sIf (tOr (tNot (cTru (cIs .tuple (cVar 1)))) (cTB (cOp oNe (cBi bLen (aCons (cVar 1) (aNil))) (cFld ix_own_m (cVar 0))))) (sRet (cK (.bl false))) (sNil)) (sRet (cBi bAll (aCons (cFrz (lLc (iVal (cVar 1)) (gNm 2) (yes) (cCallP F_is_base (aCons (cFld ix_own_q (cVar 0)) (aCons (cVar 2) (aNil)))) [2])) (aNil))))
def F_is_word_in : List D → R D := runP f_is_word_in 3 2
def f_are_words : CS := sRet (cAnd (cIs .tuple (cVar 1)) (cAnd (cOp oEq (cBi bLen (aCons (cVar 1) (aNil))) (cVar 2)) (cBi bAll (aCons (cFrz (lLc (iVal (cVar 1)) (gNm 3) (yes) (cCallP F_is_word_in (aCons (cVar 0) (aCons (cVar 3) (aNil)))) [3])) (aNil)))))
def F_are_words : List D → R D := runP f_are_words 4 3
def f_joined : CS := sSeq (sAsg (cNew (lDisp (aNil))) (gNm 1)) (sSeq (sFor (iVal (cVar 0)) (gNm 2) (sExpr (cExtend (cVar 1) (cVar 2)))) (sRet (cDone (cVar 1))))
def F_joined : List D → R D := runP f_joined 3 1
def f_sign_size_in : CS := sSeq (sParT 2 (aCons (cK (.int 0)) (aCons (cK (.int 1)) (aNil))) [gNm 1, gNm 2]) (sSeq (sWhile WFUEL (cTB (cOp oLe (cVar 2) (cBi bLen (aCons (cK K_SIGNS) (aNil))))) (sPar (aCons (cOp oAdd (cVar 1) (cK (.int 1))) (aCons (cOp oMul (cVar 2) (cVar 0)) (aNil))) [gNm 1, gNm 2])) (sRet (cVar 1)))
def F_sign_size_in : List D → R D := runP f_sign_size_in 3 1
def f_many_parts : CS := sSeq (sAsg (cOp oMul (cVar 1) (cFld ix_own_m (cVar 0))) (gNm 3)) (sRet (cOp oDiv (cOp oSub (cOp oAdd (cOp oMul (cCallP F_sign_size_in (aCons (cFld ix_own_q (cVar 0)) (aNil))) (cOp oAdd (cVar 2) (cK (.int 1)))) (cVar 3)) (cK (.int 1))) (cVar 3)))
def F_many_parts : List D → R D := runP f_many_parts 4 3
def f_number_of_digits : CS := sSeq (sAsg (cK (.int 0)) (gNm 2)) (sSeq (sFor (iVal (cVar 1)) (gNm 3) (sAsg (cOp oAdd (cOp oMul (cVar 2) (cVar 0)) (cVar 3)) (gNm 2))) (sRet (cVar 2)))
def F_number_of_digits : List D → R D := runP f_number_of_digits 4 2
def f_letter_or_reason : CS := sSeq (sAsg (cCallP F_sign_size_in (aCons (cFld ix_own_q (cVar 0)) (aNil))) (gNm 3)) (sSeq (sAsg (cFrz (lLc2 (iVal (cVar 2)) (gNm 7) (iVal (cCallP F_joined (aCons (cVar 7) (aNil)))) (gNm 8) (cVar 8) [7, 8] [8])) (gNm 4)) (sSeq (sAsg (cNew (lDisp (aNil))) (gNm 5)) (sSeq (sWhile WFUEL (cTB (cOp oGe (cBi bLen (aCons (cVar 4) (aNil))) (cOp oMul (cVar 3) (cOp oAdd (cBi bLen (aCons (cVar 5) (aNil))) (cK (.int 1)))))) (sSeq (sAsg (cCallP F_number_of_digits (aCons (cFld ix_own_q (cVar 0)) (aCons (cSl (cVar 4) (pSome (cOp oMul (cVar 3) (cBi bLen (aCons (cVar 5) (aNil))))) (pSome (cOp oMul (cVar 3) (cOp oAdd (cBi bLen (aCons (cVar 5) (aNil))) (cK (.int 1)))))) (aNil)))) (gNm 6)) (sSeq (sIf (cTB (cOp oEq (cVar 6) (cK (.int 0)))) (sSeq (sAsg (cAnd (cNot (cBi bAny (aCons (cSl (cVar 4) (pSome (cOp oMul (cVar 3) (cBi bLen (aCons (cVar 5) (aNil))))) (pNone)) (aNil)))) (cOp oEq (cBi bLen (aCons (cVar 2) (aNil))) (cCallP F_many_parts (aCons (cVar 0) (aCons (cVar 1) (aCons (cBi bLen (aCons (cVar 5) (aNil))) (aNil))))))) (gNm 9)) (sRet (cIf (cTru (cVar 9)) (cTup (aCons (cStrM kJoin (cK (.str [])) (aCons (cVar 5) (aNil))) (aCons (cK .non) (aNil)))) (cTup (aCons (cK .non) (aCons (cK K_REST) (aNil))))))) (sNil)) (sSeq (sIf (cTB (cOp oGt (cVar 6) (cBi bLen (aCons (cK K_SIGNS) (aNil))))) (sRet (cTup (aCons (cK .non) (aCons (cTup (aCons (cK K_SIGN) (aCons (cBi bLen (aCons (cVar 5) (aNil))) (aNil)))) (aNil))))) (sNil)) (sSeq (sIf (cTB (cOp oEq (cBi bLen (aCons (cVar 5) (aNil))) (cK K_MOST_SIGNS))) (sRet (cTup (aCons (cK .non) (aCons (cK K_LONG) (aNil))))) (sNil)) (sExpr (cAppend (cVar 5) (cOp oIdxA (cK K_SIGNS) (cOp oSub (cVar 6) (cK (.int 1))))))))))) (sRet (cTup (aCons (cK .non) (aCons (cK K_END) (aNil))))))))
def F_letter_or_reason : List D → R D := runP f_letter_or_reason 10 3
def f_require_field : CS := sIf (tNot (cTru (cIs (.own 6) (cVar 0)))) (sRaise 1) (sNil)
def F_require_field : List D → R D := runP f_require_field 1 1
def f_require_within : CS := sIf (tNot (cTru (cCallP F_is_within (aCons (cVar 0) (aCons (cVar 1) (aCons (cVar 2) (aNil))))))) (sRaiseF 4 (cVar 0)) (sNil)
def F_require_within : List D → R D := runP f_require_within 3 3
def f_require_rows : CS := sSeq (sExpr (cCallP F_require_field (aCons (cVar 0) (aNil)))) (sExpr (cCallP F_require_within (aCons (cVar 1) (aCons (cK (.int 1)) (aCons (cK K_MOST_ROWS) (aNil))))))
def F_require_rows : List D → R D := runP f_require_rows 2 2
def f_letter_of : CS := sSeq (sExpr (cCallP F_require_rows (aCons (cVar 0) (aCons (cVar 1) (aNil))))) (sSeq (sAsg (cAnd (cIs .tuple (cVar 2)) (cOp oLe (cBi bLen (aCons (cVar 2) (aNil))) (cK K_MOST_PARTS))) (gNm 3)) (sSeq (sIf (tOr (tNot (cTru (cVar 3))) (tNot (cTru (cBi bAll (aCons (cFrz (lLc (iVal (cVar 2)) (gNm 6) (yes) (cCallP F_are_words (aCons (cVar 0) (aCons (cVar 6) (aCons (cVar 1) (aNil))))) [6])) (aNil)))))) (sRaise 2) (sNil)) (sSeq (sAsg (cCallP F_letter_or_reason (aCons (cVar 0) (aCons (cVar 1) (aCons (cVar 2) (aNil))))) (gTp [gNm 4, gNm 5])) (sSeq (sIf (cTB (cUn oIsN (cVar 4))) (sRaiseF 5 (cVar 5)) (sNil)) (sRet (cVar 4))))))
def F_letter_of : List D → R D := runP f_letter_of 7 3
def f__law_read : CS := sTryAs (fun d => sub d 5) (sRet (cTup (aCons (cK (.str tx0)) (aCons (cCallP F_letter_of (aCons (cVar 0) (aCons (cVar 1) (aCons (cVar 2) (aNil))))) (aNil))))) 3 (fun y => cTup (aCons (cK (.str tx1)) (aCons (cK y) (aNil))))
def F__law_read : List D → R D := runP f__law_read 4 3
def f__law_spin : CS := sSeq (sIf (cTB (cOp oGt (cOp oIdxA (cVar 0) (cK (.int 0))) (cK (.int 0)))) (sSeq (sAsg (cOp oMod (cBi bInt (aCons (cOp oIdxA (cVar 0) (cK (.int 0))) (aNil))) (cVar 1)) (gNm 4)) (sSeq (sPut (cOp oDiv (cOp oIdxA (cVar 0) (cK (.int 0))) (cVar 1)) (cVar 0) (cK (.int 0))) (sRet (cVar 4)))) (sNil)) (sSeq (sPut (cOp oAdd (cOp oIdxA (cVar 0) (cK (.int 2))) (cK (.int 1))) (cVar 0) (cK (.int 2))) (sSeq (sAsg (cOp oMod (cBi bInt (aCons (cOp oAdd (cOp oIdxA (cVar 0) (cK (.int 1))) (cOp oMul (cK (.int 49979687)) (cOp oIdxA (cVar 0) (cK (.int 2))))) (aNil))) (cK (.int 2305843009213693951))) (gNm 2)) (sSeq (sAsg (cOp oAdd (cOp oMul (cOp oMod (cBi bInt (aCons (cOp oAdd (cOp oMul (cVar 2) (cVar 2)) (cOp oMul (cK (.int 137)) (cOp oIdxA (cVar 0) (cK (.int 2))))) (aNil))) (cK (.int 2305843009213693921))) (cK (.int 32452843))) (cVar 2)) (gNm 3)) (sRet (cOp oMod (cBi bInt (aCons (cOp oDiv (cVar 3) (cK (.int 65587))) (aNil))) (cVar 1))))))
def F__law_spin : List W → S → RS W := runI f__law_spin 5 2
def f__law_among : CS := sRet (cOp oIdxA (cVar 1) (cCallI F__law_spin (aCons (cVar 0) (aCons (cBi bLen (aCons (cVar 1) (aNil))) (aNil)))))
def F__law_among : List W → S → RS W := runI f__law_among 2 2
def f__law_lt_signs : CS := sRet (cK (.str tx2))
def F__law_lt_signs : List D → R D := runP f__law_lt_signs 0 0
def f__law_lt_letter : CS := sRet (cStrM kJoin (cK (.str [])) (aCons (cFrz (lLc (iRg1 (cCallI F__law_spin (aCons (cVar 0) (aCons (cOp oAdd (cVar 1) (cK (.int 1))) (aNil))))) (gNm 2) (yes) (cDone (cCallI F__law_among (aCons (cVar 0) (aCons (cFrz (lList (cCallP F__law_lt_signs (aNil)))) (aNil))))) [2])) (aNil)))
def F__law_lt_letter : List W → S → RS W := runI f__law_lt_letter 3 2
def f__law_digits : CS := sSeq (sPar (aCons (cNew (lDisp (aNil))) (aCons (cBi bInt (aCons (cVar 2) (aNil))) (aNil))) [gNm 4, gNm 5]) (sSeq (sFor (iRg1 (cVar 1)) (gNm 3) (sSeq (sExpr (cAppend (cVar 4) (cOp oMod (cVar 5) (cVar 0)))) (sAsg (cOp oDiv (cVar 5) (cVar 0)) (gNm 5)))) (sRet (cBi bTuple (aCons (cVar 4) (aNil)))))
def F__law_digits : List D → R D := runP f__law_digits 6 3
def f__law_lt_digits : CS := sRet (cRev (cFrz (lList (cCallP F__law_digits (aCons (cVar 0) (aCons (cVar 2) (aCons (cVar 1) (aNil))))))))
def F__law_lt_digits : List D → R D := runP f__law_lt_digits 3 3
def f__law_lt_size : CS := sSeq (sParT 2 (aCons (cK (.int 0)) (aCons (cK (.int 1)) (aNil))) [gNm 1, gNm 2]) (sSeq (sWhile WFUEL (cTB (cOp oLt (cVar 2) (cK (.int 44)))) (sPar (aCons (cOp oAdd (cVar 1) (cK (.int 1))) (aCons (cOp oMul (cVar 2) (cVar 0)) (aNil))) [gNm 1, gNm 2])) (sRet (cVar 1)))
def F__law_lt_size : List D → R D := runP f__law_lt_size 3 1
def f__law_lt_parts : CS := sSeq (sAsg (cNew (lDisp (aNil))) (gNm 4)) (sSeq (sFor (iVal (cVar 3)) (gNm 5) (sExpr (cExtend (cVar 4) (cCallP F__law_lt_digits (aCons (cVar 0) (aCons (cOp oAdd (cStrM kIndex (cCallP F__law_lt_signs (aNil)) (aCons (cVar 5) (aNil))) (cK (.int 1))) (aCons (cCallP F__law_lt_size (aCons (cVar 0) (aNil))) (aNil)))))))) (sRet (cCallP F__law_lt_cut (aCons (cVar 1) (aCons (cVar 2) (aCons (cOp oAdd (cVar 4) (cOp oMul (cFrz (lDisp (aCons (cK (.int 0)) (aNil)))) (cCallP F__law_lt_size (aCons (cVar 0) (aNil))))) (aNil)))))))
def F__law_lt_parts : List D → R D := runP f__law_lt_parts 6 4
def f__law_lt_told : CS := sSeq (sPar (aCons (cNew (lDisp (aNil))) (aCons (cCallP F__law_lt_size (aCons (cVar 0) (aNil))) (aCons (cK (.str [])) (aNil)))) [gNm 6, gNm 7, gNm 8]) (sSeq (sFor (iVal (cVar 3)) (gNm 4) (sFor (iVal (cVar 4)) (gNm 9) (sExpr (cExtend (cVar 6) (cVar 9))))) (sFrz 6 (sSeq (sFor (iRg1 (cOp oDiv (cBi bLen (aCons (cVar 6) (aNil))) (cVar 7))) (gNm 5) (sSeq (sAsg (cK (.int 0)) (gNm 10)) (sFrz 6 (sSeq (sFor (iVal (cSl (cVar 6) (pSome (cOp oMul (cVar 5) (cVar 7))) (pSome (cOp oAdd (cOp oMul (cVar 5) (cVar 7)) (cVar 7))))) (gNm 11) (sAsg (cOp oAdd (cOp oMul (cVar 10) (cVar 0)) (cVar 11)) (gNm 10))) (sSeq (sIf (cTB (cOp oEq (cVar 10) (cK (.int 0)))) (sSeq (sAsg (cAnd (cOp oEq (cBi bMax1 (aCons (cSl (cVar 6) (pSome (cOp oMul (cVar 5) (cVar 7))) (pNone)) (aNil))) (cK (.int 0))) (cOp oEq (cVar 3) (cCallP F__law_lt_parts (aCons (cVar 0) (aCons (cVar 1) (aCons (cVar 2) (aCons (cVar 8) (aNil)))))))) (gNm 12)) (sRet (cIf (cTru (cVar 12)) (cTup (aCons (cK (.str tx0)) (aCons (cVar 8) (aNil)))) (cTup (aCons (cK (.str tx1)) (aCons (cTup (aCons (cK (.str tx5)) (aNil))) (aNil))))))) (sNil)) (sSeq (sIf (cTB (cOp oGt (cVar 10) (cK (.int 43)))) (sRet (cTup (aCons (cK (.str tx1)) (aCons (cTup (aCons (cK (.str tx4)) (aCons (cVar 5) (aNil)))) (aNil))))) (sNil)) (sSeq (sIf (cTB (cOp oEq (cVar 5) (cK (.int 400)))) (sRet (cTup (aCons (cK (.str tx1)) (aCons (cTup (aCons (cK (.str tx3)) (aNil))) (aNil))))) (sNil)) (sAsg (cOp oAdd (cVar 8) (cOp oIdxA (cCallP F__law_lt_signs (aNil)) (cOp oSub (cVar 10) (cK (.int 1))))) (gNm 8))))))))) (sRet (cTup (aCons (cK (.str tx1)) (aCons (cTup (aCons (cK (.str [101, 110, 100])) (aNil))) (aNil))))))))
def F__law_lt_told : List D → R D := runP f__law_lt_told 13 4
def f__law_one : CS := sRet (cOp oAdd (cTup (aCons (cK (.int 1)) (aNil))) (cOp oMul (cTup (aCons (cK (.int 0)) (aNil))) (cOp oSub (cOp oIdxA (cVar 0) (cK (.int 1))) (cK (.int 1)))))
def F__law_one : List D → R D := runP f__law_one 1 1
def f__law_zero : CS := sRet (cOp oMul (cTup (aCons (cK (.int 0)) (aNil))) (cOp oIdxA (cVar 0) (cK (.int 1))))
def F__law_zero : List D → R D := runP f__law_zero 1 1
def f__law_word : CS := sSeq (sAsg (cCallI F__law_spin (aCons (cVar 0) (aCons (cK (.int 6)) (aNil)))) (gNm 2)) (sSeq (sIf (cTB (cOp oLt (cVar 2) (cK (.int 2)))) (sRet (cIf (cTB (cOp oEq (cVar 2) (cK (.int 0)))) (cCallP F__law_zero (aCons (cVar 1) (aNil))) (cCallP F__law_one (aCons (cVar 1) (aNil))))) (sNil)) (sRet (cBi bTuple (aCons (cFrz (lLc (iRg1 (cOp oIdxA (cVar 1) (cK (.int 1)))) (gNm 3) (yes) (cDone (cCallI F__law_spin (aCons (cVar 0) (aCons (cOp oIdxA (cVar 1) (cK (.int 0))) (aNil))))) [3])) (aNil)))))
def F__law_word : List W → S → RS W := runI f__law_word 4 2
def f__law_near : CS := sSeq (sPar (aCons (cCallI F__law_spin (aCons (cVar 0) (aCons (cBi bLen (aCons (cVar 3) (aNil))) (aNil)))) (aCons (cBi bTuple (aCons (cFrz (lLc (iRg1 (cVar 2)) (gNm 8) (yes) (cDone (cCallI F__law_word (aCons (cVar 0) (aCons (cVar 1) (aNil))))) [8])) (aNil))) (aNil))) [gNm 6, gNm 7]) (sSeq (sAsg (cOp oMul (cTup (aCons (cOp oMul (cTup (aCons (cK (.int 0)) (aNil))) (cOp oIdxA (cVar 1) (cK (.int 1)))) (aNil))) (cVar 2)) (gNm 4)) (sSeq (sAsg (cFrz (lDisp (aCons (cVar 3) (aCons (cSl (cVar 3) (pNone) (pSome (cUn oNeg (cK (.int 1))))) (aCons (cOp oAdd (cVar 3) (cTup (aCons (cVar 4) (aNil)))) (aCons (cOp oAdd (cVar 3) (cVar 3)) (aCons (cOp oAdd (cOp oAdd (cSl (cVar 3) (pNone) (pSome (cVar 6))) (cTup (aCons (cVar 7) (aNil)))) (cSl (cVar 3) (pSome (cOp oAdd (cVar 6) (cK (.int 1)))) (pNone))) (aCons (cSl (cVar 3) (pSome (cK (.int 1))) (pNone)) (aCons (cTup (aNil)) (aNil)))))))))) (gNm 5)) (sSeq (sAsg (cOp oAdd (cVar 5) (cFrz (lDisp (aCons (cOp oAdd (cOp oAdd (cSl (cVar 3) (pNone) (pSome (cVar 6))) (cTup (aCons (cVar 4) (aNil)))) (cSl (cVar 3) (pSome (cVar 6)) (pNone))) (aCons (cOp oAdd (cSl (cVar 3) (pNone) (pSome (cVar 6))) (cSl (cVar 3) (pSome (cOp oAdd (cVar 6) (cK (.int 1)))) (pNone))) (aCons (cOp oAdd (cTup (aCons (cVar 7) (aNil))) (cVar 3)) (aCons (cOp oAdd (cVar 3) (cTup (aCons (cVar 7) (aNil)))) (aNil)))))))) (gNm 5)) (sRet (cVar 5)))))
def F__law_near : List W → S → RS W := runI f__law_near 9 4
def f_digits_in : CS := sSeq (sAsg (cNew (lDisp (aNil))) (gNm 3)) (sSeq (sFor (iRg1 (cVar 2)) (gNm 4) (sSeq (sExpr (cAppend (cVar 3) (cOp oMod (cVar 1) (cVar 0)))) (sAsg (cOp oDiv (cVar 1) (cVar 0)) (gNm 1)))) (sRet (cRev (cVar 3))))
def F_digits_in : List D → R D := runP f_digits_in 5 3
def f_parts_in : CS := sSeq (sPar (aCons (cCallP F_sign_size_in (aCons (cFld ix_own_q (cVar 0)) (aNil))) (aCons (cOp oMul (cVar 1) (cFld ix_own_m (cVar 0))) (aNil))) [gNm 6, gNm 7]) (sSeq (sAsg (cNew (lDisp (aNil))) (gNm 3)) (sSeq (sFor (iVal (cFrz (lDisp (aStar (cFrz (lLc (iVal (cVar 2)) (gNm 9) (yes) (cOp oAdd (cStrM kIndex (cK K_SIGNS) (aCons (cVar 9) (aNil))) (cK (.int 1))) [9])) (aCons (cK (.int 0)) (aNil)))))) (gNm 4) (sExpr (cExtend (cVar 3) (cCallP F_digits_in (aCons (cFld ix_own_q (cVar 0)) (aCons (cVar 4) (aCons (cVar 6) (aNil)))))))) (sSeq (sExpr (cExtend (cVar 3) (cOp oMul (cFrz (lDisp (aCons (cK (.int 0)) (aNil)))) (cOp oSub (cOp oMul (cVar 7) (cCallP F_many_parts (aCons (cVar 0) (aCons (cVar 1) (aCons (cBi bLen (aCons (cVar 2) (aNil))) (aNil)))))) (cBi bLen (aCons (cVar 3) (aNil))))))) (sFrz 3 (sSeq (sAsg (cFrz (lLc (iRg3 (cK (.int 0)) (cBi bLen (aCons (cVar 3) (aNil))) (cFld ix_own_m (cVar 0))) (gNm 8) (yes) (cBi bTuple (aCons (cSl (cVar 3) (pSome (cVar 8)) (pSome (cOp oAdd (cVar 8) (cFld ix_own_m (cVar 0))))) (aNil))) [8])) (gNm 5)) (sRet (cBi bTuple (aCons (cFrz (lLc (iRg3 (cK (.int 0)) (cBi bLen (aCons (cVar 5) (aNil))) (cVar 1)) (gNm 8) (yes) (cBi bTuple (aCons (cSl (cVar 5) (pSome (cVar 8)) (pSome (cOp oAdd (cVar 8) (cVar 1)))) (aNil))) [8])) (aNil)))))))))
def F_parts_in : List D → R D := runP f_parts_in 10 3
def f_require_letter : CS := sSeq (sAsg (cAnd (cIs .str (cVar 0)) (cOp oLe (cBi bLen (aCons (cVar 0) (aNil))) (cK K_MOST_SIGNS))) (gNm 1)) (sIf (tOr (tNot (cTru (cVar 1))) (tNot (cTru (cBi bAll (aCons (cFrz (lLc (iVal (cVar 0)) (gNm 2) (yes) (cOp oIn (cVar 2) (cK K_SIGNS)) [2])) (aNil)))))) (sRaise 3) (sNil))
def F_require_letter : List D → R D := runP f_require_letter 3 1
def f_parts_of : CS := sSeq (sExpr (cCallP F_require_rows (aCons (cVar 0) (aCons (cVar 1) (aNil))))) (sSeq (sExpr (cCallP F_require_letter (aCons (cVar 2) (aNil)))) (sRet (cCallP F_parts_in (aCons (cVar 0) (aCons (cVar 1) (aCons (cVar 2) (aNil)))))))
def F_parts_of : List D → R D := runP f_parts_of 3 3
def f_require_base : CS := sIf (tOr (tNot (cTru (cCallP F_is_within (aCons (cVar 0) (aCons (cK (.int 0)) (aCons (cOp oIdxA (cK K_PRIMES) (cUn oNeg (cK (.int 1)))) (aNil))))))) (cTB (cOp oNin (cVar 0) (cK K_PRIMES)))) (sRaiseF 4 (cVar 0)) (sNil)
def F_require_base : List D → R D := runP f_require_base 1 1
def f_sign_size : CS := sSeq (sExpr (cCallP F_require_base (aCons (cVar 0) (aNil)))) (sRet (cCallP F_sign_size_in (aCons (cVar 0) (aNil))))
def F_sign_size : List D → R D := runP f_sign_size 1 1
def f__law_right : CS := sSeq (sPar (aCons (cCallI F__law_among (aCons (cVar 0) (aCons (cFrz (lDisp (aCons (cK (.int 2)) (aCons (cK (.int 2)) (aCons (cK (.int 3)) (aCons (cK (.int 5)) (aCons (cK (.int 7)) (aCons (cK (.int 11)) (aCons (cK (.int 13)) (aNil)))))))))) (aNil)))) (aCons (cOp oAdd (cK (.int 1)) (cCallI F__law_spin (aCons (cVar 0) (aCons (cK (.int 6)) (aNil))))) (aCons (cOp oAdd (cK (.int 1)) (cCallI F__law_spin (aCons (cVar 0) (aCons (cK (.int 4)) (aNil))))) (aNil)))) [gNm 4, gNm 5, gNm 6]) (sSeq (sPar (aCons (cDoneO (cMake 6 F_Field___init__ (aCons (cVar 4) (aCons (cVar 5) (aNil))))) (aCons (cCallI F__law_lt_letter (aCons (cVar 0) (aCons (cCallI F__law_among (aCons (cVar 0) (aCons (cFrz (lDisp (aCons (cK (.int 0)) (aCons (cK (.int 1)) (aCons (cK (.int 3)) (aCons (cK (.int 8)) (aNil))))))) (aNil)))) (aNil)))) (aNil))) [gNm 7, gNm 8]) (sSeq (sAsg (cCallP F_parts_of (aCons (cVar 7) (aCons (cVar 6) (aCons (cVar 8) (aNil))))) (gNm 1)) (sSeq (sIf (tOr (cTB (cOp oNe (cVar 1) (cCallP F__law_lt_parts (aCons (cVar 4) (aCons (cVar 5) (aCons (cVar 6) (aCons (cVar 8) (aNil)))))))) (cTB (cOp oNe (cCallP F_sign_size (aCons (cVar 4) (aNil))) (cCallP F__law_lt_size (aCons (cVar 4) (aNil)))))) (sRet (cK (.bl false))) (sNil)) (sSeq (sAsg (cTup (aCons (cVar 4) (aCons (cVar 5) (aCons (cTup (aNil)) (aNil))))) (gNm 2)) (sSeq (sFor (iRg1 (cK (.int 2))) (gNm 3) (sFor (iVal (cCallI F__law_near (aCons (cVar 0) (aCons (cVar 2) (aCons (cVar 6) (aCons (cVar 1) (aNil))))))) (gNm 9) (sIf (cTB (cOp oNe (cCallP F__law_read (aCons (cVar 7) (aCons (cVar 6) (aCons (cVar 9) (aNil))))) (cCallP F__law_lt_told (aCons (cVar 4) (aCons (cVar 5) (aCons (cVar 6) (aCons (cVar 9) (aNil)))))))) (sRet (cK (.bl false))) (sNil)))) (sRet (cK (.bl true))))))))
def F__law_right : List W → S → RS W := runI f__law_right 10 1
def f__law_spins : CS := sSeq (sAsg (cIf (cTB (cOp oLt (cVar 1) (cBi bLen (aCons (cVar 0) (aNil))))) (cBi bInt (aCons (cOp oIdxA (cVar 0) (cVar 1)) (aNil))) (cOp oAdd (cOp oMul (cK (.int 331)) (cVar 1)) (cK (.int 113)))) (gNm 2)) (sSeq (sAsg (cOp oMod (cBi bInt (aCons (cBi bAbs (aCons (cVar 2) (aNil))) (aNil))) (cOp oPow (cOp oPow (cK (.int 10)) (cK (.int 53))) (cK (.int 6)))) (gNm 3)) (sRet (cNew (lDisp (aCons (cBi bMax2 (aCons (cK (.int 0)) (aCons (cOp oSub (cVar 3) (cOp oPow (cK (.int 10)) (cK (.int 16)))) (aNil)))) (aCons (cOp oAdd (cOp oAdd (cOp oAdd (cOp oMul (cOp oMod (cBi bInt (aCons (cVar 3) (aNil))) (cK (.int 2305843009213693907))) (cK (.int 67))) (cOp oMul (cK (.int 977)) (cVar 1))) (cOp oMul (cK (.int 47)) (cBi bInt (aCons (cOp oLt (cVar 2) (cK (.int 0))) (aNil))))) (cK (.int 31))) (aCons (cK (.int 0)) (aNil))))))))
def F__law_spins : List W → S → RS W := runI f__law_spins 4 2
def f_law : CS := sSeq (sFor (iRg1 (cBi bMax2 (aCons (cK (.int 1)) (aCons (cBi bMin2 (aCons (cK (.int 3)) (aCons (cBi bLen (aCons (cVar 0) (aNil))) (aNil)))) (aNil))))) (gNm 1) (sSeq (sAsg (cCallI F__law_spins (aCons (cVar 0) (aCons (cVar 1) (aNil)))) (gNm 4)) (sFor (iRg1 (cK (.int 3))) (gNm 5) (sIf (tNot (cTru (cCallI F__law_right (aCons (cVar 4) (aNil))))) (sRet (cK (.bl false))) (sNil))))) (sSeq (sParT 2 (aCons (cDoneO (cMake 6 F_Field___init__ (aCons (cK (.int 13)) (aCons (cK (.int 6)) (aNil))))) (aCons (cOp oMul (cK (.str [97])) (cK (.int 400))) (aNil))) [gNm 6, gNm 7]) (sSeq (sIf (cTB (cOp oNe (cCallP F_letter_of (aCons (cVar 6) (aCons (cK (.int 3)) (aCons (cCallP F_parts_of (aCons (cVar 6) (aCons (cK (.int 3)) (aCons (cVar 7) (aNil))))) (aNil))))) (cVar 7))) (sRet (cK (.bl false))) (sNil)) (sSeq (sIf (cTB (cOp oNe (cFrz (lLc (iVal (cTup (aCons (cK (.int 2)) (aCons (cK (.int 3)) (aCons (cK (.int 5)) (aCons (cK (.int 7)) (aCons (cK (.int 11)) (aCons (cK (.int 13)) (aNil))))))))) (gNm 9) (yes) (cCallP F_sign_size (aCons (cVar 9) (aNil))) [9])) (cFrz (lDisp (aCons (cK (.int 6)) (aCons (cK (.int 4)) (aCons (cK (.int 3)) (aCons (cK (.int 2)) (aCons (cK (.int 2)) (aCons (cK (.int 2)) (aNil))))))))))) (sRet (cK (.bl false))) (sNil)) (sSeq (sAsg (cFrz (lDisp (aCons (cOp oAdd (cOp oMul (cFrz (lDisp (aCons (cK (.int 0)) (aCons (cK (.int 1)) (aNil))))) (cK (.int 401))) (cFrz (lDisp (aCons (cK (.int 0)) (aCons (cK (.int 0)) (aNil)))))) (aCons (cOp oMul (cFrz (lDisp (aCons (cK (.int 0)) (aCons (cK (.int 1)) (aNil))))) (cK (.int 401))) (aCons (cOp oMul (cFrz (lDisp (aCons (cK (.int 0)) (aCons (cK (.int 1)) (aNil))))) (cK (.int 400))) (aNil)))))) (gNm 2)) (sSeq (sAsg (cNew (lLc (iVal (cVar 2)) (gNm 8) (yes) (cCallP F__law_read (aCons (cVar 6) (aCons (cK (.int 3)) (aCons (cCallP F__law_lt_cut (aCons (cK (.int 6)) (aCons (cK (.int 3)) (aCons (cVar 8) (aNil))))) (aNil))))) [8])) (gNm 3)) (sSeq (sExpr (cAppend (cVar 3) (cCallP F__law_read (aCons (cVar 6) (aCons (cK (.int 3)) (aCons (cCallP F__law_lt_cut (aCons (cK (.int 6)) (aCons (cK (.int 3)) (aCons (cOp oAdd (cOp oMul (cFrz (lDisp (aCons (cK (.int 0)) (aCons (cK (.int 1)) (aNil))))) (cK (.int 400))) (cFrz (lDisp (aCons (cK (.int 7)) (aCons (cK (.int 6)) (aNil)))))) (aNil))))) (aNil))))))) (sRet (cOp oEq (cVar 3) (cFrz (lDisp (aCons (cTup (aCons (cK (.str tx1)) (aCons (cTup (aCons (cK (.str tx3)) (aNil))) (aNil)))) (aCons (cTup (aCons (cK (.str tx1)) (aCons (cTup (aCons (cK (.str tx3)) (aNil))) (aNil)))) (aCons (cTup (aCons (cK (.str tx0)) (aCons (cVar 7) (aNil)))) (aCons (cTup (aCons (cK (.str tx1)) (aCons (cTup (aCons (cK (.str tx4)) (aCons (cK (.int 400)) (aNil)))) (aNil)))) (aNil)))))))))))))))
def F_law : List D → R D := runP f_law 10 1
end K85
end

section
set_option Elab.async false
set_option linter.all false
set_option maxRecDepth 100000
set_option maxHeartbeats 4000000
namespace K85
open PySem PySem.Spec PyProof.Rows L2 Z
def top (i : Nat) : Stmt := PySem.Challenge.pw_rowsthrough_k85_whole_letters_and_parts.main.body.getD i (.Pass ⟨0, 0, 0, 0⟩)
def L : Lw := ⟨["RowError", "InvalidField", "InvalidWord", "InvalidText", "InvalidNumber", "Refused", "Field"], [6], [(4, "given"), (5, "reason")], [("END", .K K_END), ("LONG", .K K_LONG), ("MOST_DEGREE", .K K_MOST_DEGREE), ("MOST_PARTS", .K K_MOST_PARTS), ("MOST_ROWS", .K K_MOST_ROWS), ("MOST_SIGNS", .K K_MOST_SIGNS), ("PRIMES", .K K_PRIMES), ("REST", .K K_REST), ("SIGN", .K K_SIGN), ("SIGNS", .K K_SIGNS), ("InvalidField", .X 1), ("InvalidNumber", .XF 4 "given"), ("InvalidText", .X 3), ("InvalidWord", .X 2), ("Refused", .XF 5 "reason")], [("own_lower", [(6, 0)]), ("own_m", [(6, 1)]), ("own_one", [(6, 2)]), ("own_q", [(6, 3)]), ("own_zero", [(6, 4)])], ["abs", "all", "any", "bool", "divmod", "enumerate", "int", "isinstance", "len", "list", "max", "min", "range", "str", "tuple"], subs⟩
def T0 : Tb := L.tb
def ma : List Str := []
theorem tr_is_whole : trB T0 ma ⟨["value"], defScope (top 8), true, 1, [], [], false⟩ (defBody (top 8)) = some f_is_whole := by kernel_rfl
def T1 : Tb := { T0 with nm := ("is_whole", .P 1 2 F_is_whole) :: T0.nm }
theorem tr_is_within : trB T1 ma ⟨["value", "least", "most"], defScope (top 9), true, 2, [], [], false⟩ (defBody (top 9)) = some f_is_within := by kernel_rfl
def T2 : Tb := { T1 with nm := ("is_within", .P 3 3 F_is_within) :: T1.nm }
theorem tr_digits_of : trB T2 ma ⟨["q", "number", "many", "found", "turn", "digit"], defScope (top 16), true, 1, [3], [], false⟩ (defBody (top 16)) = some f_digits_of := by kernel_rfl
def T3 : Tb := { T2 with nm := ("digits_of", .P 3 2 F_digits_of) :: T2.nm }
theorem tr_led_down : trB T3 ma ⟨["q", "numbers", "lower", "at", "left", "size", "place", "number"], defScope (top 17), true, 1, [4], [], false⟩ (defBody (top 17)) = some f_led_down := by kernel_rfl
def T4 : Tb := { T3 with nm := ("led_down", .P 3 2 F_led_down) :: T3.nm }
theorem tr_many_words : trB T4 ma ⟨["q", "m", "found", "turn"], defScope (top 15), true, 1, [], [], false⟩ (defBody (top 15)) = some f_many_words := by kernel_rfl
def T5 : Tb := { T4 with nm := ("many_words", .P 2 2 F_many_words) :: T4.nm }
theorem tr_has_factor : trB T5 ma ⟨["q", "lower", "size", "number", "digit"], defScope (top 18), true, 2, [], [], false⟩ (defBody (top 18)) = some f_has_factor := by kernel_rfl
def T6 : Tb := { T5 with nm := ("has_factor", .P 3 3 F_has_factor) :: T5.nm }
theorem tr_is_free_in : trB T6 ma ⟨["q", "lower", "size"], defScope (top 19), true, 3, [], [], false⟩ (defBody (top 19)) = some f_is_free_in := by kernel_rfl
def T7 : Tb := { T6 with nm := ("is_free_in", .P 2 4 F_is_free_in) :: T6.nm }
theorem tr_least_free : trB T7 ma ⟨["q", "m", "number", "lower"], defScope (top 20), true, 4, [], [], false⟩ (defBody (top 20)) = some f_least_free := by kernel_rfl
def T8 : Tb := { T7 with nm := ("least_free", .P 2 5 F_least_free) :: T7.nm }
theorem tr_Field___init__ : trB T8 ma ⟨["self", "q", "m"], defScope (inClass (top 21) 1), true, 5, [0], [], false⟩ (defBody (inClass (top 21) 1)) = some f_Field___init__ := by kernel_rfl
def T9 : Tb := { T8 with nm := ("Field", .M 6 3 6 true F_Field___init__) :: T8.nm }
theorem tr__law_lt_cut : trB T9 ma ⟨["m", "r", "digits", "words", "whole", "told", "at"], defScope (top 59), true, 1, [5], [(237, [5])], false⟩ (defBody (top 59)) = some f__law_lt_cut := by kernel_rfl
def T10 : Tb := { T9 with nm := ("_law_lt_cut", .P 3 2 F__law_lt_cut) :: T9.nm }
theorem tr_is_base : trB T10 ma ⟨["q", "value"], defScope (top 14), true, 3, [], [], false⟩ (defBody (top 14)) = some f_is_base := by kernel_rfl
def T11 : Tb := { T10 with nm := ("is_base", .P 2 4 F_is_base) :: T10.nm }
theorem tr_is_word_in : trB T11 ma ⟨["field", "value", "digit"], defScope (top 22), true, 4, [], [], false⟩ (defBody (top 22)) = some f_is_word_in := by kernel_rfl
def T12 : Tb := { T11 with nm := ("is_word_in", .P 2 5 F_is_word_in) :: T11.nm }
theorem tr_are_words : trB T12 ma ⟨["field", "value", "many", "word"], defScope (top 26), true, 5, [], [], false⟩ (defBody (top 26)) = some f_are_words := by kernel_rfl
def T13 : Tb := { T12 with nm := ("are_words", .P 3 6 F_are_words) :: T12.nm }
theorem tr_joined : trB T13 ma ⟨["part", "found", "word"], defScope (top 42), true, 1, [1], [], false⟩ (defBody (top 42)) = some f_joined := by kernel_rfl
def T14 : Tb := { T13 with nm := ("joined", .P 1 2 F_joined) :: T13.nm }
theorem tr_sign_size_in : trB T14 ma ⟨["q", "found", "whole"], defScope (top 36), true, 1, [], [], false⟩ (defBody (top 36)) = some f_sign_size_in := by kernel_rfl
def T15 : Tb := { T14 with nm := ("sign_size_in", .P 1 2 F_sign_size_in) :: T14.nm }
theorem tr_many_parts : trB T15 ma ⟨["field", "r", "signs", "whole"], defScope (top 39), true, 2, [], [], false⟩ (defBody (top 39)) = some f_many_parts := by kernel_rfl
def T16 : Tb := { T15 with nm := ("many_parts", .P 3 3 F_many_parts) :: T15.nm }
theorem tr_number_of_digits : trB T16 ma ⟨["q", "digits", "found", "digit"], defScope (top 38), true, 1, [], [], false⟩ (defBody (top 38)) = some f_number_of_digits := by kernel_rfl
def T17 : Tb := { T16 with nm := ("number_of_digits", .P 2 2 F_number_of_digits) :: T16.nm }
theorem tr_letter_or_reason : trB T17 ma ⟨["field", "r", "parts", "size", "digits", "signs", "number", "part", "digit", "is_right"], defScope (top 41), true, 3, [5], [], false⟩ (defBody (top 41)) = some f_letter_or_reason := by kernel_rfl
def T18 : Tb := { T17 with nm := ("letter_or_reason", .P 3 4 F_letter_or_reason) :: T17.nm }
theorem tr_require_field : trB T18 ma ⟨["value"], defScope (top 24), true, 1, [], [], false⟩ (defBody (top 24)) = some f_require_field := by kernel_rfl
def T19 : Tb := { T18 with nm := ("require_field", .P 1 2 F_require_field) :: T18.nm }
theorem tr_require_within : trB T19 ma ⟨["value", "least", "most"], defScope (top 10), true, 3, [], [], false⟩ (defBody (top 10)) = some f_require_within := by kernel_rfl
def T20 : Tb := { T19 with nm := ("require_within", .P 3 4 F_require_within) :: T19.nm }
theorem tr_require_rows : trB T20 ma ⟨["field", "r"], defScope (top 44), true, 4, [], [], false⟩ (defBody (top 44)) = some f_require_rows := by kernel_rfl
def T21 : Tb := { T20 with nm := ("require_rows", .P 2 5 F_require_rows) :: T20.nm }
theorem tr_letter_of : trB T21 ma ⟨["field", "r", "parts", "is_right", "letter", "reason", "part"], defScope (top 47), true, 6, [], [], false⟩ (defBody (top 47)) = some f_letter_of := by kernel_rfl
def T22 : Tb := { T21 with nm := ("letter_of", .P 3 7 F_letter_of) :: T21.nm }
theorem tr__law_read : trB T22 ma ⟨["field", "r", "parts", "error"], defScope (top 63), true, 7, [], [], false⟩ (defBody (top 63)) = some f__law_read := by kernel_rfl
def T23 : Tb := { T22 with nm := ("_law_read", .P 3 8 F__law_read) :: T22.nm }
theorem tr__law_spin : trB T23 ma ⟨["spins", "total", "one", "two", "found"], defScope (top 49), true, 1, [0], [], false⟩ (defBody (top 49)) = some f__law_spin := by kernel_rfl
def T24 : Tb := { T23 with nm := ("_law_spin", .I 2 2 F__law_spin) :: T23.nm }
theorem tr__law_among : trB T24 ma ⟨["spins", "items"], defScope (top 53), true, 2, [0], [], false⟩ (defBody (top 53)) = some f__law_among := by kernel_rfl
def T25 : Tb := { T24 with nm := ("_law_among", .I 2 3 F__law_among) :: T24.nm }
theorem tr__law_lt_signs : trB T25 ma ⟨[], defScope (top 54), true, 1, [], [], false⟩ (defBody (top 54)) = some f__law_lt_signs := by kernel_rfl
def T26 : Tb := { T25 with nm := ("_law_lt_signs", .P 0 2 F__law_lt_signs) :: T25.nm }
theorem tr__law_lt_letter : trB T26 ma ⟨["spins", "most", "turn"], defScope (top 55), true, 3, [0], [], false⟩ (defBody (top 55)) = some f__law_lt_letter := by kernel_rfl
def T27 : Tb := { T26 with nm := ("_law_lt_letter", .I 2 4 F__law_lt_letter) :: T26.nm }
theorem tr__law_digits : trB T27 ma ⟨["q", "m", "number", "turn", "found", "left"], defScope (top 56), true, 1, [4], [], false⟩ (defBody (top 56)) = some f__law_digits := by kernel_rfl
def T28 : Tb := { T27 with nm := ("_law_digits", .P 3 2 F__law_digits) :: T27.nm }
theorem tr__law_lt_digits : trB T28 ma ⟨["q", "number", "size"], defScope (top 57), true, 2, [], [], false⟩ (defBody (top 57)) = some f__law_lt_digits := by kernel_rfl
def T29 : Tb := { T28 with nm := ("_law_lt_digits", .P 3 3 F__law_lt_digits) :: T28.nm }
theorem tr__law_lt_size : trB T29 ma ⟨["q", "size", "whole"], defScope (top 58), true, 1, [], [], false⟩ (defBody (top 58)) = some f__law_lt_size := by kernel_rfl
def T30 : Tb := { T29 with nm := ("_law_lt_size", .P 1 2 F__law_lt_size) :: T29.nm }
theorem tr__law_lt_parts : trB T30 ma ⟨["q", "m", "r", "letter", "digits", "sign"], defScope (top 60), true, 3, [4], [], false⟩ (defBody (top 60)) = some f__law_lt_parts := by kernel_rfl
def T31 : Tb := { T30 with nm := ("_law_lt_parts", .P 4 4 F__law_lt_parts) :: T30.nm }
theorem tr__law_lt_told : trB T31 ma ⟨["q", "m", "r", "parts", "part", "turn", "digits", "size", "signs", "word", "number", "digit", "is_right"], defScope (top 61), true, 4, [6], [(251, [6]), (249, [6])], false⟩ (defBody (top 61)) = some f__law_lt_told := by kernel_rfl
def T32 : Tb := { T31 with nm := ("_law_lt_told", .P 4 5 F__law_lt_told) :: T31.nm }
theorem tr__law_one : trB T32 ma ⟨["field"], defScope (top 51), true, 1, [], [], false⟩ (defBody (top 51)) = some f__law_one := by kernel_rfl
def T33 : Tb := { T32 with nm := ("_law_one", .P 1 2 F__law_one) :: T32.nm }
theorem tr__law_zero : trB T33 ma ⟨["field"], defScope (top 50), true, 1, [], [], false⟩ (defBody (top 50)) = some f__law_zero := by kernel_rfl
def T34 : Tb := { T33 with nm := ("_law_zero", .P 1 2 F__law_zero) :: T33.nm }
theorem tr__law_word : trB T34 ma ⟨["spins", "field", "way", "turn"], defScope (top 52), true, 2, [0], [], false⟩ (defBody (top 52)) = some f__law_word := by kernel_rfl
def T35 : Tb := { T34 with nm := ("_law_word", .I 2 3 F__law_word) :: T34.nm }
theorem tr__law_near : trB T35 ma ⟨["spins", "plain", "r", "parts", "zero", "found", "at", "word", "turn"], defScope (top 64), true, 3, [0], [], false⟩ (defBody (top 64)) = some f__law_near := by kernel_rfl
def T36 : Tb := { T35 with nm := ("_law_near", .I 4 4 F__law_near) :: T35.nm }
theorem tr_digits_in : trB T36 ma ⟨["q", "number", "size", "found", "turn"], defScope (top 37), true, 1, [3], [], false⟩ (defBody (top 37)) = some f_digits_in := by kernel_rfl
def T37 : Tb := { T36 with nm := ("digits_in", .P 3 2 F_digits_in) :: T36.nm }
theorem tr_parts_in : trB T37 ma ⟨["field", "r", "letter", "digits", "number", "words", "size", "whole", "at", "sign"], defScope (top 40), true, 3, [3], [(150, [3])], false⟩ (defBody (top 40)) = some f_parts_in := by kernel_rfl
def T38 : Tb := { T37 with nm := ("parts_in", .P 3 4 F_parts_in) :: T37.nm }
theorem tr_require_letter : trB T38 ma ⟨["value", "is_right", "sign"], defScope (top 43), true, 1, [], [], false⟩ (defBody (top 43)) = some f_require_letter := by kernel_rfl
def T39 : Tb := { T38 with nm := ("require_letter", .P 1 2 F_require_letter) :: T38.nm }
theorem tr_parts_of : trB T39 ma ⟨["field", "r", "letter"], defScope (top 46), true, 5, [], [], false⟩ (defBody (top 46)) = some f_parts_of := by kernel_rfl
def T40 : Tb := { T39 with nm := ("parts_of", .P 3 6 F_parts_of) :: T39.nm }
theorem tr_require_base : trB T40 ma ⟨["value"], defScope (top 23), true, 3, [], [], false⟩ (defBody (top 23)) = some f_require_base := by kernel_rfl
def T41 : Tb := { T40 with nm := ("require_base", .P 1 4 F_require_base) :: T40.nm }
theorem tr_sign_size : trB T41 ma ⟨["q"], defScope (top 45), true, 4, [], [], false⟩ (defBody (top 45)) = some f_sign_size := by kernel_rfl
def T42 : Tb := { T41 with nm := ("sign_size", .P 1 5 F_sign_size) :: T41.nm }
theorem tr__law_right : trB T42 ma ⟨["spins", "parts", "plain", "turn", "q", "m", "r", "field", "letter", "value"], defScope (top 65), true, 8, [0], [], false⟩ (defBody (top 65)) = some f__law_right := by kernel_rfl
def T43 : Tb := { T42 with nm := ("_law_right", .I 1 9 F__law_right) :: T42.nm }
theorem tr__law_spins : trB T43 ma ⟨["script", "spot", "cell", "great"], defScope (top 62), true, 1, [], [], true⟩ (defBody (top 62)) = some f__law_spins := by kernel_rfl
def T44 : Tb := { T43 with nm := ("_law_spins", .I 2 2 F__law_spins) :: T43.nm }
theorem tr_law : trB T44 ma ⟨["script", "spot", "some", "told", "spins", "turn", "field", "long", "digits", "q"], defScope (top 66), true, 9, [3, 4], [], false⟩ (defBody (top 66)) = some f_law := by kernel_rfl
/-! ### the head -/
def dn_is_whole : He.DefD := ⟨("is_whole", none), "is_whole", "is_whole", defArgs (top 8), defBody (top 8), defScope (top 8), [], []⟩
def dn_is_within : He.DefD := ⟨("is_within", none), "is_within", "is_within", defArgs (top 9), defBody (top 9), defScope (top 9), [], []⟩
def dn_digits_of : He.DefD := ⟨("digits_of", none), "digits_of", "digits_of", defArgs (top 16), defBody (top 16), defScope (top 16), [], []⟩
def dn_led_down : He.DefD := ⟨("led_down", none), "led_down", "led_down", defArgs (top 17), defBody (top 17), defScope (top 17), [], []⟩
def dn_many_words : He.DefD := ⟨("many_words", none), "many_words", "many_words", defArgs (top 15), defBody (top 15), defScope (top 15), [], []⟩
def dn_has_factor : He.DefD := ⟨("has_factor", none), "has_factor", "has_factor", defArgs (top 18), defBody (top 18), defScope (top 18), [], []⟩
def dn_is_free_in : He.DefD := ⟨("is_free_in", none), "is_free_in", "is_free_in", defArgs (top 19), defBody (top 19), defScope (top 19), [], []⟩
def dn_least_free : He.DefD := ⟨("least_free", none), "least_free", "least_free", defArgs (top 20), defBody (top 20), defScope (top 20), [], []⟩
def dn_Field___init__ : He.DefD := ⟨("Field", some "__init__"), "__init__", "Field.__init__", defArgs (inClass (top 21) 1), defBody (inClass (top 21) 1), defScope (inClass (top 21) 1), [], []⟩
def dn__law_lt_cut : He.DefD := ⟨("_law_lt_cut", none), "_law_lt_cut", "_law_lt_cut", defArgs (top 59), defBody (top 59), defScope (top 59), [], []⟩
def dn_is_base : He.DefD := ⟨("is_base", none), "is_base", "is_base", defArgs (top 14), defBody (top 14), defScope (top 14), [], []⟩
def dn_is_word_in : He.DefD := ⟨("is_word_in", none), "is_word_in", "is_word_in", defArgs (top 22), defBody (top 22), defScope (top 22), [], []⟩
def dn_are_words : He.DefD := ⟨("are_words", none), "are_words", "are_words", defArgs (top 26), defBody (top 26), defScope (top 26), [], []⟩
def dn_joined : He.DefD := ⟨("joined", none), "joined", "joined", defArgs (top 42), defBody (top 42), defScope (top 42), [], []⟩
def dn_sign_size_in : He.DefD := ⟨("sign_size_in", none), "sign_size_in", "sign_size_in", defArgs (top 36), defBody (top 36), defScope (top 36), [], []⟩
def dn_many_parts : He.DefD := ⟨("many_parts", none), "many_parts", "many_parts", defArgs (top 39), defBody (top 39), defScope (top 39), [], []⟩
def dn_number_of_digits : He.DefD := ⟨("number_of_digits", none), "number_of_digits", "number_of_digits", defArgs (top 38), defBody (top 38), defScope (top 38), [], []⟩
def dn_letter_or_reason : He.DefD := ⟨("letter_or_reason", none), "letter_or_reason", "letter_or_reason", defArgs (top 41), defBody (top 41), defScope (top 41), [], []⟩
def dn_require_field : He.DefD := ⟨("require_field", none), "require_field", "require_field", defArgs (top 24), defBody (top 24), defScope (top 24), [], []⟩
def dn_require_within : He.DefD := ⟨("require_within", none), "require_within", "require_within", defArgs (top 10), defBody (top 10), defScope (top 10), [], []⟩
def dn_require_rows : He.DefD := ⟨("require_rows", none), "require_rows", "require_rows", defArgs (top 44), defBody (top 44), defScope (top 44), [], []⟩
def dn_letter_of : He.DefD := ⟨("letter_of", none), "letter_of", "letter_of", defArgs (top 47), defBody (top 47), defScope (top 47), [], []⟩
def dn__law_read : He.DefD := ⟨("_law_read", none), "_law_read", "_law_read", defArgs (top 63), defBody (top 63), defScope (top 63), [], []⟩
def dn__law_spin : He.DefD := ⟨("_law_spin", none), "_law_spin", "_law_spin", defArgs (top 49), defBody (top 49), defScope (top 49), [], []⟩
def dn__law_among : He.DefD := ⟨("_law_among", none), "_law_among", "_law_among", defArgs (top 53), defBody (top 53), defScope (top 53), [], []⟩
def dn__law_lt_signs : He.DefD := ⟨("_law_lt_signs", none), "_law_lt_signs", "_law_lt_signs", defArgs (top 54), defBody (top 54), defScope (top 54), [], []⟩
def dn__law_lt_letter : He.DefD := ⟨("_law_lt_letter", none), "_law_lt_letter", "_law_lt_letter", defArgs (top 55), defBody (top 55), defScope (top 55), [], []⟩
def dn__law_digits : He.DefD := ⟨("_law_digits", none), "_law_digits", "_law_digits", defArgs (top 56), defBody (top 56), defScope (top 56), [], []⟩
def dn__law_lt_digits : He.DefD := ⟨("_law_lt_digits", none), "_law_lt_digits", "_law_lt_digits", defArgs (top 57), defBody (top 57), defScope (top 57), [], []⟩
def dn__law_lt_size : He.DefD := ⟨("_law_lt_size", none), "_law_lt_size", "_law_lt_size", defArgs (top 58), defBody (top 58), defScope (top 58), [], []⟩
def dn__law_lt_parts : He.DefD := ⟨("_law_lt_parts", none), "_law_lt_parts", "_law_lt_parts", defArgs (top 60), defBody (top 60), defScope (top 60), [], []⟩
def dn__law_lt_told : He.DefD := ⟨("_law_lt_told", none), "_law_lt_told", "_law_lt_told", defArgs (top 61), defBody (top 61), defScope (top 61), [], []⟩
def dn__law_one : He.DefD := ⟨("_law_one", none), "_law_one", "_law_one", defArgs (top 51), defBody (top 51), defScope (top 51), [], []⟩
def dn__law_zero : He.DefD := ⟨("_law_zero", none), "_law_zero", "_law_zero", defArgs (top 50), defBody (top 50), defScope (top 50), [], []⟩
def dn__law_word : He.DefD := ⟨("_law_word", none), "_law_word", "_law_word", defArgs (top 52), defBody (top 52), defScope (top 52), [], []⟩
def dn__law_near : He.DefD := ⟨("_law_near", none), "_law_near", "_law_near", defArgs (top 64), defBody (top 64), defScope (top 64), [], []⟩
def dn_digits_in : He.DefD := ⟨("digits_in", none), "digits_in", "digits_in", defArgs (top 37), defBody (top 37), defScope (top 37), [], []⟩
def dn_parts_in : He.DefD := ⟨("parts_in", none), "parts_in", "parts_in", defArgs (top 40), defBody (top 40), defScope (top 40), [], []⟩
def dn_require_letter : He.DefD := ⟨("require_letter", none), "require_letter", "require_letter", defArgs (top 43), defBody (top 43), defScope (top 43), [], []⟩
def dn_parts_of : He.DefD := ⟨("parts_of", none), "parts_of", "parts_of", defArgs (top 46), defBody (top 46), defScope (top 46), [], []⟩
def dn_require_base : He.DefD := ⟨("require_base", none), "require_base", "require_base", defArgs (top 23), defBody (top 23), defScope (top 23), [], []⟩
def dn_sign_size : He.DefD := ⟨("sign_size", none), "sign_size", "sign_size", defArgs (top 45), defBody (top 45), defScope (top 45), [], []⟩
def dn__law_right : He.DefD := ⟨("_law_right", none), "_law_right", "_law_right", defArgs (top 65), defBody (top 65), defScope (top 65), [], []⟩
def dn__law_spins : He.DefD := ⟨("_law_spins", none), "_law_spins", "_law_spins", defArgs (top 62), defBody (top 62), defScope (top 62), [], []⟩
def dn_law : He.DefD := ⟨("law", none), "law", "law", defArgs (top 66), defBody (top 66), defScope (top 66), [], []⟩
def fns : List He.DefD := (([dn_is_whole, dn_is_within, dn_digits_of, dn_led_down, dn_many_words, dn_has_factor, dn_is_free_in, dn_least_free, dn_Field___init__, dn__law_lt_cut, dn_is_base, dn_is_word_in, dn_are_words, dn_joined, dn_sign_size_in, dn_many_parts, dn_number_of_digits, dn_letter_or_reason, dn_require_field, dn_require_within] : List He.DefD) ++ ([dn_require_rows, dn_letter_of, dn__law_read, dn__law_spin, dn__law_among, dn__law_lt_signs, dn__law_lt_letter, dn__law_digits, dn__law_lt_digits, dn__law_lt_size, dn__law_lt_parts, dn__law_lt_told, dn__law_one, dn__law_zero, dn__law_word, dn__law_near, dn_digits_in, dn_parts_in, dn_require_letter, dn_parts_of] : List He.DefD) ++ ([dn_require_base, dn_sign_size, dn__law_right, dn__law_spins, dn_law] : List He.DefD))
def su_InvalidNumber : SuD := ⟨"InvalidNumber", 4, "given", inClass (top 5) 0, "IndexError", [.type "IndexError", .type "LookupError", .type "Exception", .type "BaseException", .type "object"]⟩
theorem sok_InvalidNumber : SuOk su_InvalidNumber := ⟨PySem.F.excBase_IndexError, PySem.F.store_IndexError, PySem.W.kxs_IndexError, by kernel_rfl, by kernel_rfl, ⟨_, rfl, rfl⟩, by intros; kernel_rfl⟩
def su_Refused : SuD := ⟨"Refused", 5, "reason", inClass (top 6) 0, "ArithmeticError", [.type "ArithmeticError", .type "Exception", .type "BaseException", .type "object"]⟩
theorem sok_Refused : SuOk su_Refused := ⟨PySem.F.excBase_ArithmeticError, PySem.F.store_ArithmeticError, PySem.W.kxs_ArithmeticError, by kernel_rfl, by kernel_rfl, ⟨_, rfl, rfl⟩, by intros; kernel_rfl⟩
def sus : List SuD := [su_InvalidNumber, su_Refused]
theorem sus_ok : ∀ d ∈ sus, SuOk d := by
  intro d hd
  unfold sus at hd
  simp only [List.mem_cons, List.not_mem_nil, or_false] at hd
  rcases hd with rfl | rfl
  · exact sok_InvalidNumber
  · exact sok_Refused
abbrev Rw : PySem.W.OpenRow := PySem.W.OpenLaw.row PySem.Challenge.rw_rowsthrough_k85_whole_letters_and_parts
abbrev main : Str := PySem.Challenge.pw_rowsthrough_k85_whole_letters_and_parts.main.file
abbrev hk : PySem.W.Hook := hookZ 4 L main fns sus
def ob (s : PySem.W.SharedT) : AlZ := obsZ 4 L main fns sus (HandSHeadRun.getT s)
theorem ob_eq (s : PySem.W.SharedT) : ob s = hk.obs s.abs := obsZ_eq (HandSHeadRun.getT_eq s)
theorem run (w : World) : HandSHeadRun.RunEq Rw (PySem.W.view Rw.prog [66]) hk ob 6000 ((["RowError", "InvalidField", "InvalidWord", "InvalidText", "InvalidNumber", "Refused", "is_whole", "is_within", "require_within", "PRIMES", "MOST_DEGREE", "is_base", "many_words", "digits_of", "led_down", "has_factor", "is_free_in", "least_free", "Field", "is_word_in"] : List Str) ++ (["require_base", "require_field", "are_words", "MOST_SIGNS", "MOST_PARTS", "MOST_ROWS", "SIGNS", "SIGN", "END", "LONG", "REST", "sign_size_in", "digits_in", "number_of_digits", "many_parts", "parts_in", "letter_or_reason", "joined", "require_letter", "require_rows"] : List Str) ++ (["sign_size", "parts_of", "letter_of", "_law_spin", "_law_zero", "_law_one", "_law_word", "_law_among", "_law_lt_signs", "_law_lt_letter", "_law_digits", "_law_lt_digits", "_law_lt_size", "_law_lt_cut", "_law_lt_parts", "_law_lt_told", "_law_spins", "_law_read", "_law_near", "_law_right"] : List Str)) w := by
  intro os
  kernel_rfl
theorem facts {w : World} {K : PySem.W.Frag} {mg : Str → Option Value} {h : Heap} (KX : K.In h) (G : h.Ns mainGlobals mg) (c : SaysZ L main fns sus K) (base : Heap) : TOk (L.cg K) PySem.Challenge.pw_rowsthrough_k85_whole_letters_and_parts w K mg base T44 := by
  have t : TOk (L.cg K) PySem.Challenge.pw_rowsthrough_k85_whole_letters_and_parts w K mg base T0 := tok0z KX G c (by kernel_rfl) sus_ok (by kernel_rfl)
  have t := addPd t KX G c (d := dn_is_whole) (mem_ix 0 rfl) rfl rfl rfl rfl rfl tr_is_whole (ps := ["value"]) (by kernel_rfl) (fun _ _ _ _ _ _ us hl => match us, hl with | [_], _ => rfl) (n := 1) (l := 1) rfl rfl
  have t := addPd t KX G c (d := dn_is_within) (mem_ix 1 rfl) rfl rfl rfl rfl rfl tr_is_within (ps := ["value", "least", "most"]) (by kernel_rfl) (fun _ _ _ _ _ _ us hl => match us, hl with | [_, _, _], _ => rfl) (n := 3) (l := 3) rfl rfl
  have t := addPd t KX G c (d := dn_digits_of) (mem_ix 2 rfl) rfl rfl rfl rfl rfl tr_digits_of (ps := ["q", "number", "many"]) (by kernel_rfl) (fun _ _ _ _ _ _ us hl => match us, hl with | [_, _, _], _ => rfl) (n := 6) (l := 3) rfl rfl
  have t := addPd t KX G c (d := dn_led_down) (mem_ix 3 rfl) rfl rfl rfl rfl rfl tr_led_down (ps := ["q", "numbers", "lower"]) (by kernel_rfl) (fun _ _ _ _ _ _ us hl => match us, hl with | [_, _, _], _ => rfl) (n := 8) (l := 3) rfl rfl
  have t := addPd t KX G c (d := dn_many_words) (mem_ix 4 rfl) rfl rfl rfl rfl rfl tr_many_words (ps := ["q", "m"]) (by kernel_rfl) (fun _ _ _ _ _ _ us hl => match us, hl with | [_, _], _ => rfl) (n := 4) (l := 2) rfl rfl
  have t := addPd t KX G c (d := dn_has_factor) (mem_ix 5 rfl) rfl rfl rfl rfl rfl tr_has_factor (ps := ["q", "lower", "size"]) (by kernel_rfl) (fun _ _ _ _ _ _ us hl => match us, hl with | [_, _, _], _ => rfl) (n := 5) (l := 3) rfl rfl
  have t := addPd t KX G c (d := dn_is_free_in) (mem_ix 6 rfl) rfl rfl rfl rfl rfl tr_is_free_in (ps := ["q", "lower"]) (by kernel_rfl) (fun _ _ _ _ _ _ us hl => match us, hl with | [_, _], _ => rfl) (n := 3) (l := 2) rfl rfl
  have t := addPd t KX G c (d := dn_least_free) (mem_ix 7 rfl) rfl rfl rfl rfl rfl tr_least_free (ps := ["q", "m"]) (by kernel_rfl) (fun _ _ _ _ _ _ us hl => match us, hl with | [_, _], _ => rfl) (n := 4) (l := 2) rfl rfl
  have t := addMd (cc := 6) (fz0 := true) t KX G c (d := dn_Field___init__) (mem_ix 8 rfl) rfl rfl rfl rfl rfl (by kernel_rfl) (by kernel_rfl) tr_Field___init__ (ps := ["self", "q", "m"]) (by kernel_rfl) (fun _ _ _ _ _ _ us hl => match us, hl with | [_, _, _], _ => rfl) (n := 3) (l := 3) rfl rfl
  have t := addPd t KX G c (d := dn__law_lt_cut) (mem_ix 9 rfl) rfl rfl rfl rfl rfl tr__law_lt_cut (ps := ["m", "r", "digits"]) (by kernel_rfl) (fun _ _ _ _ _ _ us hl => match us, hl with | [_, _, _], _ => rfl) (n := 7) (l := 3) rfl rfl
  have t := addPd t KX G c (d := dn_is_base) (mem_ix 10 rfl) rfl rfl rfl rfl rfl tr_is_base (ps := ["q", "value"]) (by kernel_rfl) (fun _ _ _ _ _ _ us hl => match us, hl with | [_, _], _ => rfl) (n := 2) (l := 2) rfl rfl
  have t := addPd t KX G c (d := dn_is_word_in) (mem_ix 11 rfl) rfl rfl rfl rfl rfl tr_is_word_in (ps := ["field", "value"]) (by kernel_rfl) (fun _ _ _ _ _ _ us hl => match us, hl with | [_, _], _ => rfl) (n := 3) (l := 2) rfl rfl
  have t := addPd t KX G c (d := dn_are_words) (mem_ix 12 rfl) rfl rfl rfl rfl rfl tr_are_words (ps := ["field", "value", "many"]) (by kernel_rfl) (fun _ _ _ _ _ _ us hl => match us, hl with | [_, _, _], _ => rfl) (n := 4) (l := 3) rfl rfl
  have t := addPd t KX G c (d := dn_joined) (mem_ix 13 rfl) rfl rfl rfl rfl rfl tr_joined (ps := ["part"]) (by kernel_rfl) (fun _ _ _ _ _ _ us hl => match us, hl with | [_], _ => rfl) (n := 3) (l := 1) rfl rfl
  have t := addPd t KX G c (d := dn_sign_size_in) (mem_ix 14 rfl) rfl rfl rfl rfl rfl tr_sign_size_in (ps := ["q"]) (by kernel_rfl) (fun _ _ _ _ _ _ us hl => match us, hl with | [_], _ => rfl) (n := 3) (l := 1) rfl rfl
  have t := addPd t KX G c (d := dn_many_parts) (mem_ix 15 rfl) rfl rfl rfl rfl rfl tr_many_parts (ps := ["field", "r", "signs"]) (by kernel_rfl) (fun _ _ _ _ _ _ us hl => match us, hl with | [_, _, _], _ => rfl) (n := 4) (l := 3) rfl rfl
  have t := addPd t KX G c (d := dn_number_of_digits) (mem_ix 16 rfl) rfl rfl rfl rfl rfl tr_number_of_digits (ps := ["q", "digits"]) (by kernel_rfl) (fun _ _ _ _ _ _ us hl => match us, hl with | [_, _], _ => rfl) (n := 4) (l := 2) rfl rfl
  have t := addPd t KX G c (d := dn_letter_or_reason) (mem_ix 17 rfl) rfl rfl rfl rfl rfl tr_letter_or_reason (ps := ["field", "r", "parts"]) (by kernel_rfl) (fun _ _ _ _ _ _ us hl => match us, hl with | [_, _, _], _ => rfl) (n := 10) (l := 3) rfl rfl
  have t := addPd t KX G c (d := dn_require_field) (mem_ix 18 rfl) rfl rfl rfl rfl rfl tr_require_field (ps := ["value"]) (by kernel_rfl) (fun _ _ _ _ _ _ us hl => match us, hl with | [_], _ => rfl) (n := 1) (l := 1) rfl rfl
  have t := addPd t KX G c (d := dn_require_within) (mem_ix 19 rfl) rfl rfl rfl rfl rfl tr_require_within (ps := ["value", "least", "most"]) (by kernel_rfl) (fun _ _ _ _ _ _ us hl => match us, hl with | [_, _, _], _ => rfl) (n := 3) (l := 3) rfl rfl
  have t := addPd t KX G c (d := dn_require_rows) (mem_ix 20 rfl) rfl rfl rfl rfl rfl tr_require_rows (ps := ["field", "r"]) (by kernel_rfl) (fun _ _ _ _ _ _ us hl => match us, hl with | [_, _], _ => rfl) (n := 2) (l := 2) rfl rfl
  have t := addPd t KX G c (d := dn_letter_of) (mem_ix 21 rfl) rfl rfl rfl rfl rfl tr_letter_of (ps := ["field", "r", "parts"]) (by kernel_rfl) (fun _ _ _ _ _ _ us hl => match us, hl with | [_, _, _], _ => rfl) (n := 7) (l := 3) rfl rfl
  have t := addPd t KX G c (d := dn__law_read) (mem_ix 22 rfl) rfl rfl rfl rfl rfl tr__law_read (ps := ["field", "r", "parts"]) (by kernel_rfl) (fun _ _ _ _ _ _ us hl => match us, hl with | [_, _, _], _ => rfl) (n := 4) (l := 3) rfl rfl
  have t := addId t KX G c (d := dn__law_spin) (mem_ix 23 rfl) rfl rfl rfl rfl rfl tr__law_spin (ps := ["spins", "total"]) (by kernel_rfl) (fun _ _ _ _ _ _ us hl => match us, hl with | [_, _], _ => rfl) (n := 5) (l := 2) rfl rfl
  have t := addId t KX G c (d := dn__law_among) (mem_ix 24 rfl) rfl rfl rfl rfl rfl tr__law_among (ps := ["spins", "items"]) (by kernel_rfl) (fun _ _ _ _ _ _ us hl => match us, hl with | [_, _], _ => rfl) (n := 2) (l := 2) rfl rfl
  have t := addPd t KX G c (d := dn__law_lt_signs) (mem_ix 25 rfl) rfl rfl rfl rfl rfl tr__law_lt_signs (ps := []) (by kernel_rfl) (fun _ _ _ _ _ _ us hl => match us, hl with | [], _ => rfl) (n := 0) (l := 0) rfl rfl
  have t := addId t KX G c (d := dn__law_lt_letter) (mem_ix 26 rfl) rfl rfl rfl rfl rfl tr__law_lt_letter (ps := ["spins", "most"]) (by kernel_rfl) (fun _ _ _ _ _ _ us hl => match us, hl with | [_, _], _ => rfl) (n := 3) (l := 2) rfl rfl
  have t := addPd t KX G c (d := dn__law_digits) (mem_ix 27 rfl) rfl rfl rfl rfl rfl tr__law_digits (ps := ["q", "m", "number"]) (by kernel_rfl) (fun _ _ _ _ _ _ us hl => match us, hl with | [_, _, _], _ => rfl) (n := 6) (l := 3) rfl rfl
  have t := addPd t KX G c (d := dn__law_lt_digits) (mem_ix 28 rfl) rfl rfl rfl rfl rfl tr__law_lt_digits (ps := ["q", "number", "size"]) (by kernel_rfl) (fun _ _ _ _ _ _ us hl => match us, hl with | [_, _, _], _ => rfl) (n := 3) (l := 3) rfl rfl
  have t := addPd t KX G c (d := dn__law_lt_size) (mem_ix 29 rfl) rfl rfl rfl rfl rfl tr__law_lt_size (ps := ["q"]) (by kernel_rfl) (fun _ _ _ _ _ _ us hl => match us, hl with | [_], _ => rfl) (n := 3) (l := 1) rfl rfl
  have t := addPd t KX G c (d := dn__law_lt_parts) (mem_ix 30 rfl) rfl rfl rfl rfl rfl tr__law_lt_parts (ps := ["q", "m", "r", "letter"]) (by kernel_rfl) (fun _ _ _ _ _ _ us hl => match us, hl with | [_, _, _, _], _ => rfl) (n := 6) (l := 4) rfl rfl
  have t := addPd t KX G c (d := dn__law_lt_told) (mem_ix 31 rfl) rfl rfl rfl rfl rfl tr__law_lt_told (ps := ["q", "m", "r", "parts"]) (by kernel_rfl) (fun _ _ _ _ _ _ us hl => match us, hl with | [_, _, _, _], _ => rfl) (n := 13) (l := 4) rfl rfl
  have t := addPd t KX G c (d := dn__law_one) (mem_ix 32 rfl) rfl rfl rfl rfl rfl tr__law_one (ps := ["field"]) (by kernel_rfl) (fun _ _ _ _ _ _ us hl => match us, hl with | [_], _ => rfl) (n := 1) (l := 1) rfl rfl
  have t := addPd t KX G c (d := dn__law_zero) (mem_ix 33 rfl) rfl rfl rfl rfl rfl tr__law_zero (ps := ["field"]) (by kernel_rfl) (fun _ _ _ _ _ _ us hl => match us, hl with | [_], _ => rfl) (n := 1) (l := 1) rfl rfl
  have t := addId t KX G c (d := dn__law_word) (mem_ix 34 rfl) rfl rfl rfl rfl rfl tr__law_word (ps := ["spins", "field"]) (by kernel_rfl) (fun _ _ _ _ _ _ us hl => match us, hl with | [_, _], _ => rfl) (n := 4) (l := 2) rfl rfl
  have t := addId t KX G c (d := dn__law_near) (mem_ix 35 rfl) rfl rfl rfl rfl rfl tr__law_near (ps := ["spins", "plain", "r", "parts"]) (by kernel_rfl) (fun _ _ _ _ _ _ us hl => match us, hl with | [_, _, _, _], _ => rfl) (n := 9) (l := 4) rfl rfl
  have t := addPd t KX G c (d := dn_digits_in) (mem_ix 36 rfl) rfl rfl rfl rfl rfl tr_digits_in (ps := ["q", "number", "size"]) (by kernel_rfl) (fun _ _ _ _ _ _ us hl => match us, hl with | [_, _, _], _ => rfl) (n := 5) (l := 3) rfl rfl
  have t := addPd t KX G c (d := dn_parts_in) (mem_ix 37 rfl) rfl rfl rfl rfl rfl tr_parts_in (ps := ["field", "r", "letter"]) (by kernel_rfl) (fun _ _ _ _ _ _ us hl => match us, hl with | [_, _, _], _ => rfl) (n := 10) (l := 3) rfl rfl
  have t := addPd t KX G c (d := dn_require_letter) (mem_ix 38 rfl) rfl rfl rfl rfl rfl tr_require_letter (ps := ["value"]) (by kernel_rfl) (fun _ _ _ _ _ _ us hl => match us, hl with | [_], _ => rfl) (n := 3) (l := 1) rfl rfl
  have t := addPd t KX G c (d := dn_parts_of) (mem_ix 39 rfl) rfl rfl rfl rfl rfl tr_parts_of (ps := ["field", "r", "letter"]) (by kernel_rfl) (fun _ _ _ _ _ _ us hl => match us, hl with | [_, _, _], _ => rfl) (n := 3) (l := 3) rfl rfl
  have t := addPd t KX G c (d := dn_require_base) (mem_ix 40 rfl) rfl rfl rfl rfl rfl tr_require_base (ps := ["value"]) (by kernel_rfl) (fun _ _ _ _ _ _ us hl => match us, hl with | [_], _ => rfl) (n := 1) (l := 1) rfl rfl
  have t := addPd t KX G c (d := dn_sign_size) (mem_ix 41 rfl) rfl rfl rfl rfl rfl tr_sign_size (ps := ["q"]) (by kernel_rfl) (fun _ _ _ _ _ _ us hl => match us, hl with | [_], _ => rfl) (n := 1) (l := 1) rfl rfl
  have t := addId t KX G c (d := dn__law_right) (mem_ix 42 rfl) rfl rfl rfl rfl rfl tr__law_right (ps := ["spins"]) (by kernel_rfl) (fun _ _ _ _ _ _ us hl => match us, hl with | [_], _ => rfl) (n := 10) (l := 1) rfl rfl
  have t := addId t KX G c (d := dn__law_spins) (mem_ix 43 rfl) rfl rfl rfl rfl rfl tr__law_spins (ps := ["script", "spot"]) (by kernel_rfl) (fun _ _ _ _ _ _ us hl => match us, hl with | [_, _], _ => rfl) (n := 4) (l := 2) rfl rfl
  exact t
open PySem.W PySem.Calls in
theorem holds_of (hF : ∀ ns : List Int, ns.length ≤ 63 → F_law [.lck ns] = .ok (.bl true)) : PySem.Challenge.rw_rowsthrough_k85_whole_letters_and_parts.Holds := by
  w_on; o_law
  refine HandSHeadRun.head_any (r := Rw) (q := PySem.W.view Rw.prog [66]) (H := hk) (ob := ob) (M := 6000) (loose := ((["RowError", "InvalidField", "InvalidWord", "InvalidText", "InvalidNumber", "Refused", "is_whole", "is_within", "require_within", "PRIMES", "MOST_DEGREE", "is_base", "many_words", "digits_of", "led_down", "has_factor", "is_free_in", "least_free", "Field", "is_word_in"] : List Str) ++ (["require_base", "require_field", "are_words", "MOST_SIGNS", "MOST_PARTS", "MOST_ROWS", "SIGNS", "SIGN", "END", "LONG", "REST", "sign_size_in", "digits_in", "number_of_digits", "many_parts", "parts_in", "letter_or_reason", "joined", "require_letter", "require_rows"] : List Str) ++ (["sign_size", "parts_of", "letter_of", "_law_spin", "_law_zero", "_law_one", "_law_word", "_law_among", "_law_lt_signs", "_law_lt_letter", "_law_digits", "_law_lt_digits", "_law_lt_size", "_law_lt_cut", "_law_lt_parts", "_law_lt_told", "_law_spins", "_law_read", "_law_near", "_law_right"] : List Str))) (d := HandSHeadRun.topDef Rw.prog 66) (kwd := []) ob_eq
    (by kernel_rfl) (fun s => by kernel_rfl) run (by kernel_rfl) (by kernel_rfl) (by kernel_rfl) (by rfl) (by first | assumption | decide +kernel) (by decide +kernel) ⟨rfl, rfl, rfl, rfl, rfl, by decide +kernel⟩ ?hw ?hc
  case hw => w_witness2
  case hc =>
    refine walk_Z (l := PySem.Challenge.rw_rowsthrough_k85_whole_letters_and_parts) (n := 63) (k := 10) (x := "script") (y := "law") (F := F_law) (dd := dn_law) rfl (by decide) (by kernel_rfl) ⟨rfl, by decide, by decide⟩ (by kernel_rfl) hF (mem_ix 44 rfl) rfl rfl rfl (fun _ _ _ _ _ _ us hl => match us, hl with | [_], _ => rfl) ?_
    intro w mg h K KX G c base hB hN fd F
    exact ok_P F (fnsC_ok (by kernel_rfl)) (body_ok (ps := ["script"]) (facts KX G c base) (fnsC_ok (by kernel_rfl)) tr_law)
end K85
end

section
set_option Elab.async false
set_option linter.all false
set_option maxRecDepth 100000
set_option maxHeartbeats 1000000
namespace K85
open Z
local macro_rules | `(tactic| walk_at "z1") => `(tactic| first
  | with_reducible refine wf_seq ?_
  | with_reducible refine wf_ret ?_
  | with_reducible refine wf_retN ?_
  | with_reducible refine wf_set ?_
  | with_reducible refine wf_if ?_
  | with_reducible refine wf_expr ?_
  | with_reducible refine wf_nil ?_
  | with_reducible refine wf_par ?_
  | with_reducible refine wf_put ?_
  | with_reducible refine wf_raise ?_
  | with_reducible refine wf_raiseF ?_
  | with_reducible refine wf_for ?_
  | with_reducible refine wf_brk ?_
  | with_reducible refine wf_cnt ?_
  | ((with_reducible refine wf_frzR (j := ?zj) (xs := ?zx) ?zv ?zg ?_); (case zv => exact rfl); (case zg => first | exact get_head | exact rfl))
  | ((with_reducible refine wf_frzD (x := ?zx) ?zv ?_); (case zv => exact rfl))
  | with_reducible refine wf_asg ?_
  | with_reducible refine wp_K ?_
  | ((with_reducible refine wp_var (w := ?zw) ?zv ?_); (case zv => exact rfl))
  | with_reducible refine wp_op ?_
  | with_reducible refine wp_un ?_
  | with_reducible refine wp_chain ?_
  | with_reducible refine wp_tru ?_
  | with_reducible refine wp_TB ?_
  | with_reducible refine wp_tAnd ?_
  | with_reducible refine wp_tOr ?_
  | with_reducible refine wp_tNot ?_
  | with_reducible refine wp_cAnd ?_
  | with_reducible refine wp_cOr ?_
  | with_reducible refine wp_cNot ?_
  | with_reducible refine wp_cIf ?_
  | with_reducible refine wp_aNil ?_
  | with_reducible refine wp_aCons ?_
  | with_reducible refine wp_aStar ?_
  | with_reducible refine wp_tup ?_
  | with_reducible refine wp_disp ?_
  | with_reducible refine wp_frz ?_
  | with_reducible refine wp_new ?_
  | with_reducible refine wp_done ?_
  | with_reducible refine wp_bi ?_
  | with_reducible refine wp_is ?_
  | with_reducible refine wp_list ?_
  | with_reducible refine wp_pNone ?_
  | with_reducible refine wp_pSome ?_
  | with_reducible refine wp_sl ?_
  | with_reducible refine wp_lSl ?_
  | with_reducible refine wp_rev ?_
  | with_reducible refine wp_lRev ?_
  | with_reducible refine wp_callP_ok ?_
  | with_reducible refine wp_callI ?_
  | with_reducible refine wp_strM ?_
  | with_reducible refine wp_append ?_
  | with_reducible refine wp_extend ?_
  | with_reducible refine wp_iVal ?_
  | with_reducible refine wp_rg1 ?_
  | with_reducible refine wp_rg2 ?_
  | with_reducible refine wp_rg3 ?_
  | with_reducible refine wp_enum ?_
  | with_reducible refine wp_lc ?_
  | with_reducible refine wp_lc2 ?_
  | with_reducible refine wp_fldO ?_
  | with_reducible refine wp_gNm ?_
  | with_reducible refine wp_gFld ?_
  | with_reducible refine wf_fld ?_
  | with_reducible refine wp_make ?_
  | with_reducible refine wp_doneO ?_
  | with_reducible refine wp_gEach ?_
  | with_reducible refine wp_gEach_nil ?_
  | with_reducible refine wp_gAll ?_
  | with_reducible refine wp_gAll_nil ?_
  | with_reducible refine wf_parT ?_
  | with_reducible refine wp_gTp ?_
  | with_reducible refine wp_ok ?_)
local macro_rules | `(tactic| walk_at "zr") => `(tactic| exact rfl)
local macro_rules | `(tactic| walk_at "zr") => `(tactic| ((with_reducible refine oMod_int ?_); first | with_reducible assumption | omega))
local macro_rules | `(tactic| walk_at "zr") => `(tactic| ((with_reducible refine oDiv_int ?_ ?_) <;> first | with_reducible assumption | omega))
local macro_rules | `(tactic| walk_at "zr") => `(tactic| ((with_reducible refine oMul_int ?_); first | with_reducible assumption | omega))
local macro_rules | `(tactic| walk_at "zr") => `(tactic| ((with_reducible refine bDivmod_int ?_ ?_) <;> first | with_reducible assumption | omega))
local macro_rules | `(tactic| walk_at "zr") => `(tactic| with_reducible exact rfl)
local macro_rules | `(tactic| walk_at "zr") => `(tactic| ((with_reducible refine atD_int ?_ ?_) <;> first | with_reducible assumption | omega))
local macro_rules | `(tactic| walk_at "zr") => `(tactic| ((with_reducible refine setD_int ?_ ?_) <;> first | with_reducible assumption | omega))
local macro_rules | `(tactic| walk_at "zr") => `(tactic| with_reducible exact bAll_fun _ _)
local macro_rules | `(tactic| walk_at "zr") => `(tactic| with_reducible exact bAny_fun _ _)
local macro_rules | `(tactic| walk_at "zc") => `(tactic| with_reducible assumption)
local macro_rules | `(tactic| walk_at "zl") => `(tactic| first
  | with_reducible exact rfl
  | with_reducible assumption
  | ((with_reducible refine okR_int ?_ ?_) <;> first | omega | (simp only [List.length_map]; omega))
  | ((with_reducible refine okR2 ?_ ?_ ?_ ?_) <;> first | omega | (simp only [List.length_map]; omega))
  | ((with_reducible refine okR3 ?_ ?_ ?_ ?_ ?_ ?_) <;> first | omega | decide | (simp only [List.length_map]; omega))
  | (simp only [List.length_map, List.length_append, List.length_cons, List.length_nil, List.length_replicate, List.length_reverse, LIM]; omega)
  | exact rfl
  | decide
  | fail)
local macro_rules | `(tactic| walk_at "zr") => `(tactic| with_reducible exact get_head)
local macro_rules | `(tactic| walk_at "zr") => `(tactic| ((with_reducible refine oMul_tup ?_ ?_ ?_) <;> first | omega | decide))
local macro_rules | `(tactic| walk_at "zr") => `(tactic| ((with_reducible refine oAdd_tup ?_); first | omega | (simp only [prep_len, List.length_map, List.length_append, List.length_cons, List.length_nil, List.length_reverse, List.length_replicate]; omega)))
local macro_rules | `(tactic| walk_at "zr") => `(tactic| ((with_reducible refine oAdd_lst ?_); first | omega | (simp only [prep_len, List.length_map, List.length_append, List.length_cons, List.length_nil, List.length_reverse, List.length_replicate]; omega)))
local macro_rules | `(tactic| walk_at "z2") => `(tactic| first
  | ((with_reducible refine Exists.intro ?za (Exists.intro ?zb (Exists.intro ?zc (Exists.intro ?zd (Exists.intro ?ze (And.intro ?z1 (And.intro ?z2 (And.intro ?z3 (And.intro ?z4 (And.intro ?z5 ?_)))))))))); (case z1 => exact rfl); (case z2 => exact rfl); (case z3 => exact rfl); (case z4 => exact rfl); (case z5 => walk_at "zr"))
  | ((with_reducible refine Exists.intro ?za (Exists.intro ?zb (Exists.intro ?zc (Exists.intro ?zd (And.intro ?z1 (And.intro ?z2 (And.intro ?z3 ?_))))))); (case z1 => exact rfl); (case z2 => walk_at "zr"); (case z3 => walk_at "zr"))
  | ((with_reducible refine Exists.intro ?za (Exists.intro ?zb (Exists.intro ?zc (And.intro ?z1 (And.intro ?z2 (And.intro ?z3 ?_)))))); (case z1 => exact rfl); (case z2 => exact rfl); (case z3 => walk_at "zr"))
  | ((with_reducible refine Exists.intro ?za (Exists.intro ?zb (And.intro ?z1 (And.intro ?z2 ?_)))); (case z1 => exact rfl); (case z2 => first | with_reducible assumption | walk_at "zc" | walk_at "zr"))
  | ((with_reducible refine Exists.intro ?za (And.intro ?z1 ?_)); (case z1 => first | exact rfl | ((with_reducible refine asDs_star (zs := ?zq) ?zh); (case zh => exact rfl))))
  | ((with_reducible refine Or.inl (Exists.intro ?za (Exists.intro ?zb (And.intro ?z1 (And.intro ?z2 ?_))))); (case z1 => exact rfl); (case z2 => exact rfl))
  | with_reducible refine And.intro (fun z => absurd z (by decide)) (fun _ => ?_)
  | with_reducible refine And.intro (fun _ => ?_) (fun z => absurd z (by decide))
  | (refine And.intro (fun hz => ?_) (fun hz => ?_) <;> try simp only [decide_eq_true_eq, decide_eq_false_iff_not, Bool.not_eq_true', Bool.not_eq_false', Int.not_le, Int.not_lt, eqv_int, beq_iff_eq, beq_eq_false_iff_ne, ne_eq, bne_iff_ne] at hz)
  | ((with_reducible refine And.intro ?z1 ?_); (case z1 => walk_at "zl"))
  | fail)
local macro_rules | `(tactic| walk_at "z") => `(tactic| repeat' ((first | walk_at "z1" | walk_at "z2"); try dsimp only [List.set_cons_zero, List.set_cons_succ, S.add, S.nil, S.put]; try simp only [setO_head, del_mk, delO_head, delO_nil]))
local macro_rules | `(tactic| walk_at "z0") => `(tactic| simp only [start, List.map_cons, List.map_nil, List.length_cons, List.length_nil, Nat.reduceAdd, Nat.reduceSub, Nat.zero_add, Nat.sub_self, List.replicate_zero, List.replicate_succ, List.cons_append, List.nil_append, List.append_nil])
local macro_rules | `(tactic| walk_at "zp") => `(tactic| ((with_reducible refine runP_w ?h1 ?h2); (case h1 => rfl)))
local macro_rules | `(tactic| walk_at "zp") => `(tactic| ((with_reducible refine runP_of ?h1 ?h2); (case h1 => rfl)))
local macro_rules | `(tactic| walk_at "zi") => `(tactic| ((with_reducible refine runI_w ?h1 ?h2); (case h1 => rfl)))
local macro_rules | `(tactic| walk_at "zs") => `(tactic| ((first | walk_at "z1" | walk_at "z2"); try dsimp only [List.set_cons_zero, List.set_cons_succ, S.add, S.nil, S.put]; try simp only [setO_head, del_mk, delO_head, delO_nil]))
local macro_rules | `(tactic| walk_at "zr") => `(tactic| ((with_reducible refine oMul_lst ?_ ?_ ?_) <;> first | omega | (simp only [prep_len, List.length_map, List.length_append, List.length_cons, List.length_nil, List.length_reverse, List.length_replicate]; omega)))
theorem is_whole_int (v : Int) : F_is_whole [.int v] = .ok (.bl true) := by rfl
local macro_rules | `(tactic| walk_at "zc") => `(tactic| with_reducible exact is_whole_int _)
theorem is_within_int (v a b : Int) : F_is_within [.int v, .int a, .int b] = .ok (.bl (decide (a ≤ v) && decide (v ≤ b))) := by
  unfold F_is_within
  walk_at "zp"
  unfold f_is_within
  walk_at "z0"
  walk_at "z"
  all_goals first | (simp_all; done) | (simp_all; omega)
local macro_rules | `(tactic| walk_at "zc") => `(tactic| with_reducible exact is_within_int _ _ _)
theorem wR_bl {r : R D} (h : wR r (fun y => ∃ b : Bool, y = .bl b) (fun _ => False)) : ∃ b : Bool, r = .ok (.bl b) := by
  have h2 := wR_ok h
  cases h2 with
  | intro y hy =>
    cases hy.2 with
    | intro b hb => exact ⟨b, by rw [hy.1, hb]⟩
def powL (q : Int) : Nat → Int
  | 0 => 1
  | n + 1 => powL q n * q
theorem many_words_ok {q m : Int} (hq : 0 ≤ q) (hq2 : q < 100) (hm : 0 ≤ m) (hm2 : m < 100) : F_many_words [.int q, .int m] = .ok (.int (powL q m.toNat)) := by
  unfold F_many_words
  walk_at "zp"
  unfold f_many_words
  walk_at "z0"
  walk_at "z"
  refine wf_turns (fun k e s => ∃ w, e = [some (.d (.int q)), some (.d (.int m)), some (.d (.int (powL q k))), w] ∧ s = ⟨0, []⟩) ⟨_, rfl, rfl⟩ (fun k x e s hk hx h => ?_) (fun e s h => ?_)
  · obtain ⟨w, rfl, rfl⟩ := h
    walk_at "z"
    first | done | exact ⟨_, rfl, rfl⟩
  · obtain ⟨w, rfl, rfl⟩ := h
    walk_at "z"
    rw [rangeL_len]
local macro_rules | `(tactic| walk_at "zc") => `(tactic| ((with_reducible refine many_words_ok ?_ ?_ ?_ ?_) <;> omega))

def restN (q n : Int) : Nat → Int
  | 0 => n
  | k + 1 => restN q n k / q
def digs (q n : Int) : Nat → List Int
  | 0 => []
  | k + 1 => digs q n k ++ [restN q n k % q]
theorem digs_len (q n : Int) : ∀ k, (digs q n k).length = k
  | 0 => rfl
  | k + 1 => by rw [digs, List.length_append, digs_len q n k]; rfl
theorem digits_of_ok {q n m : Int} (hq : 0 < q) (hq2 : q < 100) (hm : 0 ≤ m) (hm2 : m < 1000) : F_digits_of [.int q, .int n, .int m] = .ok (.tup ((digs q n m.toNat).map .int)) := by
  unfold F_digits_of
  walk_at "zp"
  unfold f_digits_of
  walk_at "z0"
  walk_at "z"
  refine wf_turns (fun k e s => ∃ w w', e = [some (.d (.int q)), some (.d (.int (restN q n k))), some (.d (.int m)), some (.ref 0), w, w'] ∧ s = ⟨1, [(0, .lst ((digs q n k).map .int))]⟩) ⟨_, _, rfl, rfl⟩ (fun k x e s hk hx h => ?_) (fun e s h => ?_)
  · obtain ⟨w, w', rfl, rfl⟩ := h
    rw [rangeL_len] at hk
    have hdl := digs_len q n k
    walk_at "z"
    exact ⟨_, _, rfl, by simp [digs]⟩
  · obtain ⟨w, w', rfl, rfl⟩ := h
    walk_at "z"
    rw [rangeL_len]
local macro_rules | `(tactic| walk_at "zc") => `(tactic| ((with_reducible refine digits_of_ok ?_ ?_ ?_ ?_) <;> omega))
theorem many_words_nat {q : Int} {k : Nat} (hq : 0 ≤ q) (hq2 : q < 100) (hk : k < 100) : F_many_words [.int q, .int k] = .ok (.int (powL q k)) := many_words_ok hq hq2 (by omega) (by omega)
local macro_rules | `(tactic| walk_at "zc") => `(tactic| ((with_reducible refine many_words_nat ?_ ?_ ?_) <;> omega))
theorem digits_of_nat {q n : Int} {k : Nat} (hq : 0 < q) (hq2 : q < 100) (hk : k < 1000) : F_digits_of [.int q, .int n, .int k] = .ok (.tup ((digs q n k).map .int)) := digits_of_ok hq hq2 (by omega) (by omega)
local macro_rules | `(tactic| walk_at "zc") => `(tactic| ((with_reducible refine digits_of_nat ?_ ?_ ?_) <;> omega))
theorem led_down_ok {q : Int} (hq : 0 < q) (ns ls : List Int) (h1 : ns.length < 1000) (h2 : ls.length < 1000) (h3 : ∀ l ∈ ls, 0 ≤ l ∧ l < 100) : ∃ zs : List Int, zs.length < 1000 ∧ F_led_down [.int q, .lst (ns.map .int), .tup (ls.map .int)] = .ok (.lst (zs.map .int)) := by
  suffices h : wR (F_led_down [.int q, .lst (ns.map .int), .tup (ls.map .int)]) (fun y => ∃ zs : List Int, zs.length < 1000 ∧ y = .lst (zs.map .int)) (fun _ => False) by
    obtain ⟨y, e, zs, hl, rfl⟩ := wR_ok h
    exact ⟨zs, hl, e⟩
  unfold F_led_down
  walk_at "zp"
  unfold f_led_down
  walk_at "z0"
  walk_at "z"
  refine wf_all (fun pre e s => ∃ (zs : List Int) (w w' w3 : Option W), zs.length = ns.length ∧ e = [some (.d (.int q)), some (.d (.lst (ns.map .int))), some (.d (.tup (ls.map .int))), w, some (.ref 0), some (.d (.int ls.length)), w', w3] ∧ s = ⟨1, [(0, .lst (zs.map .int))]⟩) ⟨ns, _, _, _, rfl, by rw [List.length_map], rfl⟩ (fun pre x post e s ha h => ?_) (fun e s h => ?_)
  · obtain ⟨zs, w, w', w3, hz, rfl, rfl⟩ := h
    obtain ⟨a, rfl, ha1, ha2⟩ := rangeC_down (x := x) (by rw [ha]; simp)
    simp only [List.length_map] at ha1 ha2
    walk_at "z"
    refine wf_all (fun pre e s => ∃ (zs : List Int) (w' w3 : Option W), zs.length = ns.length ∧ e = [some (.d (.int q)), some (.d (.lst (ns.map .int))), some (.d (.tup (ls.map .int))), some (.d (.int a)), some (.ref 0), some (.d (.int ls.length)), w', w3] ∧ s = ⟨1, [(0, .lst (zs.map .int))]⟩) ⟨zs, _, _, hz, rfl, rfl⟩ (fun pre x post e s ha h => ?_) (fun e s h => ?_)
    · obtain ⟨zs, w', w3, hz, rfl, rfl⟩ := h
      obtain ⟨k, y, hk1, hk2, hk3, rfl⟩ := numbered_mem (x := x) (n := 0) (xs := ls.map .int) (by rw [ha]; simp)
      rw [List.getElem?_map] at hk3
      rw [List.length_map] at hk2
      cases hy : ls[k - 0]? with
      | none => rw [hy] at hk3; cases hk3
      | some v =>
        rw [hy] at hk3
        cases hk3
        have hv := h3 v (List.mem_of_getElem? hy)
        walk_at "z"
        exact ⟨_, _, _, by rw [List.length_set, hz], rfl, rfl⟩
    · obtain ⟨zs, w', w3, hz, rfl, rfl⟩ := h
      walk_at "z"
      exact ⟨_, _, _, _, by rw [List.length_set, hz], rfl, rfl⟩
  · obtain ⟨zs, w, w', w3, hz, rfl, rfl⟩ := h
    walk_at "z"
    exact ⟨cutD zs none (some (ls.length : Int)), by have := cutD_len zs none (some (ls.length : Int)); omega, by rw [cutD_map]⟩
theorem digs_bd {q : Int} (hq : 0 < q) (n : Int) : ∀ k, ∀ l ∈ digs q n k, 0 ≤ l ∧ l < q
  | 0, l, h => by cases h
  | k + 1, l, h => by
    rw [digs, List.mem_append] at h
    rcases h with h | h
    · exact digs_bd hq n k l h
    · obtain rfl : l = restN q n k % q := by simpa using h
      exact ⟨Int.emod_nonneg _ (by omega), Int.emod_lt_of_pos _ hq⟩
theorem has_factor_ok {q : Int} (hq : 0 < q) (hq2 : q < 100) (ls : List Int) (h1 : ls.length < 900) (h3 : ∀ l ∈ ls, 0 ≤ l ∧ l < 100) (k : Nat) (hk : k < 10) (hpow : powL q k < 4611686018427387904) (hpow0 : 0 ≤ powL q k) : ∃ b : Bool, F_has_factor [.int q, .tup (ls.map .int), .int k] = .ok (.bl b) := by
  suffices h : wR (F_has_factor [.int q, .tup (ls.map .int), .int k]) (fun y => ∃ b : Bool, y = .bl b) (fun _ => False) by
    exact wR_bl h
  unfold F_has_factor
  walk_at "zp"
  unfold f_has_factor
  walk_at "z0"
  walk_at "z"
  refine wf_all (fun pre e s => ∃ (w w' : Option W), e = [some (.d (.int q)), some (.d (.tup (ls.map .int))), some (.d (.int k)), w, w'] ∧ s = ⟨0, []⟩) ⟨_, _, rfl, rfl⟩ (fun pre x post e s ha h => ?_) (fun e s h => ?_)
  · obtain ⟨w, w', rfl, rfl⟩ := h
    obtain ⟨j, hj, rfl⟩ := rangeL_mem (x := x) (by rw [ha]; simp)
    obtain ⟨zs, hzl, hz⟩ := led_down_ok hq (ls ++ [1]) (digs q (0 + j) k) (by simp; omega) (by rw [digs_len]; omega) (fun l hl => by have := digs_bd hq (0 + j) k l hl; omega)
    rw [List.map_append, List.map_cons, List.map_nil] at hz
    walk_at "z"
    refine wp_lcMap (fun x => .bl (eqv x (.int 0))) (fun x hx => ?_) ?_
    · obtain ⟨i, hi, rfl⟩ := List.mem_map.mp hx
      walk_at "z"
    · walk_at "z"
      all_goals first | exact ⟨_, rfl⟩ | exact ⟨_, _, rfl, rfl⟩ | exact ⟨_, _, rfl, trivial⟩
  · obtain ⟨w, w', rfl, rfl⟩ := h
    walk_at "z"
    exact ⟨_, rfl⟩
theorem powL_pos {q : Int} (hq : 0 < q) : ∀ k, 0 < powL q k
  | 0 => by simp [powL]
  | k + 1 => Int.mul_pos (powL_pos hq k) hq
theorem powL_le {q : Int} (hq : 0 < q) (hq2 : q ≤ 13) : ∀ k, powL q k ≤ 13 ^ k
  | 0 => by simp [powL]
  | k + 1 => by
    rw [powL, Int.pow_succ]
    exact Int.mul_le_mul (powL_le hq hq2 k) hq2 (by omega) (Int.pow_nonneg (by decide))
theorem has_factor_B {q : Int} (hq : 0 < q) (hq2 : q ≤ 13) (ls : List Int) (h1 : ls.length ≤ 6) (h3 : ∀ l ∈ ls, 0 ≤ l ∧ l < 100) (k : Nat) (hk : k ≤ 6) : F_has_factor [.int q, .tup (ls.map .int), .int k] = .ok (.bl (bO F_has_factor [.int q, .tup (ls.map .int), .int k])) := by
  have := powL_le hq hq2 k
  have := powL_pos hq k
  have h4 : (13 : Int) ^ k ≤ 13 ^ 6 := by
    have h5 : (13 : Nat) ^ k ≤ 13 ^ 6 := Nat.pow_le_pow_right (by decide) hk
    exact_mod_cast h5
  have h6 : (13 : Int) ^ 6 = 4826809 := by decide
  exact bO_of (has_factor_ok hq (by omega) ls (by omega) h3 k (by omega) (by omega) (by omega))
theorem is_free_in_ok {q : Int} (hq : 0 < q) (hq2 : q ≤ 13) (ls : List Int) (h1 : ls.length ≤ 6) (h3 : ∀ l ∈ ls, 0 ≤ l ∧ l < 100) : ∃ b : Bool, F_is_free_in [.int q, .tup (ls.map .int)] = .ok (.bl b) := by
  suffices h : wR (F_is_free_in [.int q, .tup (ls.map .int)]) (fun y => ∃ b : Bool, y = .bl b) (fun _ => False) by
    exact wR_bl h
  unfold F_is_free_in
  walk_at "zp"
  unfold f_is_free_in
  walk_at "z0"
  walk_at "z"
  refine wp_lcMap (fun x => .bl (bO F_has_factor [.int q, .tup (ls.map .int), x])) (fun x hx => ?_) ?_
  · obtain ⟨k, hk, rfl⟩ := rangeL_mem hx
    simp only [List.length_map] at hk
    have hh := has_factor_B hq hq2 ls h1 h3 (k + 1) (by omega)
    have e : (1 + (k : Int)) = ((k + 1 : Nat) : Int) := by omega
    rw [e]
    walk_at "z"
  · rw [List.length_map, rangeL_len]
    walk_at "z"
    exact ⟨_, rfl⟩
theorem is_free_in_B {q : Int} (hq : 0 < q) (hq2 : q ≤ 13) (ls : List Int) (h1 : ls.length ≤ 6) (h3 : ∀ l ∈ ls, 0 ≤ l ∧ l < 100) : F_is_free_in [.int q, .tup (ls.map .int)] = .ok (.bl (bO F_is_free_in [.int q, .tup (ls.map .int)])) := bO_of (is_free_in_ok hq hq2 ls h1 h3)
theorem powL_bd {q : Int} (hq : 0 < q) (hq2 : q ≤ 13) (k : Nat) (hk : k ≤ 6) : 0 < powL q k ∧ powL q k ≤ 4826809 := by
  refine ⟨powL_pos hq k, ?_⟩
  have := powL_le hq hq2 k
  have h4 : (13 : Int) ^ k ≤ 13 ^ 6 := by
    have h5 : (13 : Nat) ^ k ≤ 13 ^ 6 := Nat.pow_le_pow_right (by decide) hk
    exact_mod_cast h5
  have h6 : (13 : Int) ^ 6 = 4826809 := by decide
  omega
theorem least_free_ok {q : Int} (hq : 0 < q) (hq2 : q ≤ 13) (m : Nat) (hm : 1 ≤ m) (hm2 : m ≤ 6) : ∃ y, F_least_free [.int q, .int m] = .ok y ∧ noLst y = true := by
  suffices h : wR (F_least_free [.int q, .int m]) (fun y => noLst y = true) (fun _ => False) from wR_ok h
  have b1 := powL_bd hq hq2 m hm2
  have b2 := powL_bd hq hq2 (m - 1) (by omega)
  have e : ((m : Int) - 1).toNat = m - 1 := by omega
  have core : ∀ (lo : Int) (n : Nat), wf (forAll (gNm 2)
      (sSeq (sAsg (cRev (cCallP F_digits_of (aCons (cVar 0) (aCons (cVar 2) (aCons (cVar 1) aNil))))) (gNm 3))
        (sIf (cTru (cCallP F_is_free_in (aCons (cVar 0) (aCons (cVar 3) aNil)))) (sRet (cVar 3)) sNil))
      (rangeL lo n) [some (W.d (D.int q)), some (W.d (D.int ↑m)), none, none] { nx := 0, os := [] })
    { N := fun e1 s1 => wf (sRet (cK D.non) e1 s1) { N := fun x x_1 => noLst D.non = true, R := fun w x => ∃ y, w = W.d y ∧ noLst y = true },
      R := fun w x => ∃ y, w = W.d y ∧ noLst y = true } := by
    intro lo n
    refine wf_all (fun pre e s => ∃ (w w' : Option W), e = [some (.d (.int q)), some (.d (.int m)), w, w'] ∧ s = ⟨0, []⟩) ⟨_, _, rfl, rfl⟩ (fun pre x post e s ha h => ?_) (fun e s h => ?_)
    · obtain ⟨w, w', rfl, rfl⟩ := h
      obtain ⟨k, hk, hxx⟩ := rangeL_mem (x := x) (by rw [ha]; simp)
      rw [hxx]
      have hf := is_free_in_B hq hq2 (digs q (lo + k) m).reverse (by rw [List.length_reverse, digs_len]; exact hm2) (fun l hl => by have := digs_bd hq (lo + k) m l (List.mem_reverse.mp hl); omega)
      rw [List.map_reverse] at hf
      walk_at "z"
      · rw [← List.map_reverse]; exact noLst_ints _
      · exact ⟨_, _, rfl, trivial⟩
    · obtain ⟨w, w', rfl, rfl⟩ := h
      walk_at "z"
      rfl
  unfold F_least_free
  walk_at "zp"
  unfold f_least_free
  walk_at "z0"
  walk_at "z"
  · rw [e]
    refine And.intro ?_ (core _ _)
    refine okR2 ?_ ?_ ?_ ?_ <;> omega
  · exact core _ _
/-- a field as it stands -/
def fldD (l : D) (q m : Int) : D := .obj 6 [l, .int m, .tup (.int 1 :: (rep (m - 1).toNat [.int 0])), .int q, .tup (rep m.toNat [.int 0])]
def primes : List Int := [2, 3, 5, 7, 11, 13]
theorem field_w {q : Int} (hq : q ∈ primes) (m : Nat) (hm : 1 ≤ m) (hm2 : m ≤ 6) (s : S) (Q : W → S → Prop) (E : Exn → S → Prop) (h : ∀ l s1, noLst l = true → (∀ j, j < s.nx → s1.get j = s.get j) → s1.nx = s.nx + 1 → Q (.d (fldD l q m)) s1) {g : CA} {e : Env} (hg : wp (g e s) (fun ws s1 => ws = [.d (.int q), .d (.int m)] ∧ s1 = s) E) : wp (cDoneO (cMake 6 F_Field___init__ g) e s) Q E := by
  refine wp_doneO (wp_make (wp_mono hg (fun ws s1 hw => ?_) fun _ _ h => h))
  obtain ⟨rfl, rfl⟩ := hw
  have hq0 : 0 < q ∧ q ≤ 13 := by
    simp only [primes, List.mem_cons, List.not_mem_nil, or_false] at hq
    omega
  obtain ⟨l, hl, hl2⟩ := least_free_ok hq0.1 hq0.2 m hm hm2
  unfold F_Field___init__
  walk_at "zi"
  unfold f_Field___init__
  walk_at "z0"
  walk_at "z"
  · exfalso
    simp only [Bool.and_eq_false_iff, decide_eq_false_iff_not] at *
    omega
  · exfalso
    simp only [primes, List.mem_cons, List.not_mem_nil, or_false] at hq
    rcases hq with rfl | rfl | rfl | rfl | rfl | rfl <;> simp_all [memB, eqv]
  · exfalso
    simp only [Bool.and_eq_false_iff, decide_eq_false_iff_not] at *
    omega
  · have hx := h l
    rw [fldD] at hx
    simp only [setO_head, List.singleton_append, putAt]
    refine ⟨6, _, _, _, (get_keep (Nat.lt_succ_self _)).trans get_head, rfl, hx _ hl2 (fun j hj => ?_) rfl⟩
    rw [pget_del (by omega), get_keep (by omega)]
    show getO j (_ :: s1.os) = getO j s1.os
    rw [getO, if_neg (by omega)]
end K85
end

section
set_option Elab.async false
set_option linter.all false
set_option maxRecDepth 100000
set_option maxHeartbeats 1000000
namespace K85
open Z
local macro_rules | `(tactic| walk_at "z1") => `(tactic| first
  | with_reducible refine wf_seq ?_
  | with_reducible refine wf_ret ?_
  | with_reducible refine wf_retN ?_
  | with_reducible refine wf_set ?_
  | with_reducible refine wf_if ?_
  | with_reducible refine wf_expr ?_
  | with_reducible refine wf_nil ?_
  | with_reducible refine wf_par ?_
  | with_reducible refine wf_put ?_
  | with_reducible refine wf_raise ?_
  | with_reducible refine wf_raiseF ?_
  | with_reducible refine wf_for ?_
  | with_reducible refine wf_brk ?_
  | with_reducible refine wf_cnt ?_
  | ((with_reducible refine wf_frzR (j := ?zj) (xs := ?zx) ?zv ?zg ?_); (case zv => exact rfl); (case zg => first | exact get_head | exact rfl))
  | ((with_reducible refine wf_frzD (x := ?zx) ?zv ?_); (case zv => exact rfl))
  | with_reducible refine wf_asg ?_
  | with_reducible refine wp_K ?_
  | ((with_reducible refine wp_var (w := ?zw) ?zv ?_); (case zv => exact rfl))
  | with_reducible refine wp_op ?_
  | with_reducible refine wp_un ?_
  | with_reducible refine wp_chain ?_
  | with_reducible refine wp_tru ?_
  | with_reducible refine wp_TB ?_
  | with_reducible refine wp_tAnd ?_
  | with_reducible refine wp_tOr ?_
  | with_reducible refine wp_tNot ?_
  | with_reducible refine wp_cAnd ?_
  | with_reducible refine wp_cOr ?_
  | with_reducible refine wp_cNot ?_
  | with_reducible refine wp_cIf ?_
  | with_reducible refine wp_aNil ?_
  | with_reducible refine wp_aCons ?_
  | with_reducible refine wp_aStar ?_
  | with_reducible refine wp_tup ?_
  | with_reducible refine wp_disp ?_
  | with_reducible refine wp_frz ?_
  | with_reducible refine wp_new ?_
  | with_reducible refine wp_done ?_
  | with_reducible refine wp_bi ?_
  | with_reducible refine wp_is ?_
  | with_reducible refine wp_list ?_
  | with_reducible refine wp_pNone ?_
  | with_reducible refine wp_pSome ?_
  | with_reducible refine wp_sl ?_
  | with_reducible refine wp_lSl ?_
  | with_reducible refine wp_rev ?_
  | with_reducible refine wp_lRev ?_
  | with_reducible refine wp_callP_ok ?_
  | with_reducible refine wp_callI ?_
  | with_reducible refine wp_strM ?_
  | with_reducible refine wp_append ?_
  | with_reducible refine wp_extend ?_
  | with_reducible refine wp_iVal ?_
  | with_reducible refine wp_rg1 ?_
  | with_reducible refine wp_rg2 ?_
  | with_reducible refine wp_rg3 ?_
  | with_reducible refine wp_enum ?_
  | with_reducible refine wp_lc ?_
  | with_reducible refine wp_lc2 ?_
  | with_reducible refine wp_fldO ?_
  | with_reducible refine wp_gNm ?_
  | with_reducible refine wp_gFld ?_
  | with_reducible refine wf_fld ?_
  | with_reducible refine wp_make ?_
  | with_reducible refine wp_doneO ?_
  | with_reducible refine wp_gEach ?_
  | with_reducible refine wp_gEach_nil ?_
  | with_reducible refine wp_gAll ?_
  | with_reducible refine wp_gAll_nil ?_
  | with_reducible refine wf_parT ?_
  | with_reducible refine wp_gTp ?_
  | with_reducible refine wp_ok ?_)
local macro_rules | `(tactic| walk_at "zr") => `(tactic| exact rfl)
local macro_rules | `(tactic| walk_at "zr") => `(tactic| ((with_reducible refine oMod_int ?_); first | with_reducible assumption | omega))
local macro_rules | `(tactic| walk_at "zr") => `(tactic| ((with_reducible refine oDiv_int ?_ ?_) <;> first | with_reducible assumption | omega))
local macro_rules | `(tactic| walk_at "zr") => `(tactic| ((with_reducible refine oMul_int ?_); first | with_reducible assumption | omega))
local macro_rules | `(tactic| walk_at "zr") => `(tactic| ((with_reducible refine bDivmod_int ?_ ?_) <;> first | with_reducible assumption | omega))
local macro_rules | `(tactic| walk_at "zr") => `(tactic| with_reducible exact rfl)
local macro_rules | `(tactic| walk_at "zr") => `(tactic| ((with_reducible refine atD_int ?_ ?_) <;> first | with_reducible assumption | omega))
local macro_rules | `(tactic| walk_at "zr") => `(tactic| ((with_reducible refine setD_int ?_ ?_) <;> first | with_reducible assumption | omega))
local macro_rules | `(tactic| walk_at "zr") => `(tactic| with_reducible exact bAll_fun _ _)
local macro_rules | `(tactic| walk_at "zr") => `(tactic| with_reducible exact bAny_fun _ _)
local macro_rules | `(tactic| walk_at "zc") => `(tactic| with_reducible assumption)
local macro_rules | `(tactic| walk_at "zl") => `(tactic| first
  | with_reducible exact rfl
  | with_reducible assumption
  | ((with_reducible refine okR_int ?_ ?_) <;> first | omega | (simp only [List.length_map]; omega))
  | ((with_reducible refine okR2 ?_ ?_ ?_ ?_) <;> first | omega | (simp only [List.length_map]; omega))
  | ((with_reducible refine okR3 ?_ ?_ ?_ ?_ ?_ ?_) <;> first | omega | decide | (simp only [List.length_map]; omega))
  | (simp only [List.length_map, List.length_append, List.length_cons, List.length_nil, List.length_replicate, List.length_reverse, LIM]; omega)
  | exact rfl
  | decide
  | fail)
local macro_rules | `(tactic| walk_at "zr") => `(tactic| with_reducible exact get_head)
local macro_rules | `(tactic| walk_at "zr") => `(tactic| ((with_reducible refine oMul_tup ?_ ?_ ?_) <;> first | omega | decide))
local macro_rules | `(tactic| walk_at "zr") => `(tactic| ((with_reducible refine oAdd_tup ?_); first | omega | (simp only [prep_len, List.length_map, List.length_append, List.length_cons, List.length_nil, List.length_reverse, List.length_replicate]; omega)))
local macro_rules | `(tactic| walk_at "zr") => `(tactic| ((with_reducible refine oAdd_lst ?_); first | omega | (simp only [prep_len, List.length_map, List.length_append, List.length_cons, List.length_nil, List.length_reverse, List.length_replicate]; omega)))
local macro_rules | `(tactic| walk_at "z2") => `(tactic| first
  | ((with_reducible refine Exists.intro ?za (Exists.intro ?zb (Exists.intro ?zc (Exists.intro ?zd (Exists.intro ?ze (And.intro ?z1 (And.intro ?z2 (And.intro ?z3 (And.intro ?z4 (And.intro ?z5 ?_)))))))))); (case z1 => exact rfl); (case z2 => exact rfl); (case z3 => exact rfl); (case z4 => exact rfl); (case z5 => walk_at "zr"))
  | ((with_reducible refine Exists.intro ?za (Exists.intro ?zb (Exists.intro ?zc (Exists.intro ?zd (And.intro ?z1 (And.intro ?z2 (And.intro ?z3 ?_))))))); (case z1 => exact rfl); (case z2 => walk_at "zr"); (case z3 => walk_at "zr"))
  | ((with_reducible refine Exists.intro ?za (Exists.intro ?zb (Exists.intro ?zc (And.intro ?z1 (And.intro ?z2 (And.intro ?z3 ?_)))))); (case z1 => exact rfl); (case z2 => exact rfl); (case z3 => walk_at "zr"))
  | ((with_reducible refine Exists.intro ?za (Exists.intro ?zb (And.intro ?z1 (And.intro ?z2 ?_)))); (case z1 => exact rfl); (case z2 => first | with_reducible assumption | walk_at "zc" | walk_at "zr"))
  | ((with_reducible refine Exists.intro ?za (And.intro ?z1 ?_)); (case z1 => first | exact rfl | ((with_reducible refine asDs_star (zs := ?zq) ?zh); (case zh => exact rfl))))
  | ((with_reducible refine Or.inl (Exists.intro ?za (Exists.intro ?zb (And.intro ?z1 (And.intro ?z2 ?_))))); (case z1 => exact rfl); (case z2 => exact rfl))
  | with_reducible refine And.intro (fun z => absurd z (by decide)) (fun _ => ?_)
  | with_reducible refine And.intro (fun _ => ?_) (fun z => absurd z (by decide))
  | (refine And.intro (fun hz => ?_) (fun hz => ?_) <;> try simp only [decide_eq_true_eq, decide_eq_false_iff_not, Bool.not_eq_true', Bool.not_eq_false', Int.not_le, Int.not_lt, eqv_int, beq_iff_eq, beq_eq_false_iff_ne, ne_eq, bne_iff_ne] at hz)
  | ((with_reducible refine And.intro ?z1 ?_); (case z1 => walk_at "zl"))
  | fail)
local macro_rules | `(tactic| walk_at "z") => `(tactic| repeat' ((first | walk_at "z1" | walk_at "z2"); try dsimp only [List.set_cons_zero, List.set_cons_succ, S.add, S.nil, S.put]; try simp only [setO_head, del_mk, delO_head, delO_nil]))
local macro_rules | `(tactic| walk_at "z0") => `(tactic| simp only [start, List.map_cons, List.map_nil, List.length_cons, List.length_nil, Nat.reduceAdd, Nat.reduceSub, Nat.zero_add, Nat.sub_self, List.replicate_zero, List.replicate_succ, List.cons_append, List.nil_append, List.append_nil])
local macro_rules | `(tactic| walk_at "zp") => `(tactic| ((with_reducible refine runP_w ?h1 ?h2); (case h1 => rfl)))
local macro_rules | `(tactic| walk_at "zp") => `(tactic| ((with_reducible refine runP_of ?h1 ?h2); (case h1 => rfl)))
local macro_rules | `(tactic| walk_at "zi") => `(tactic| ((with_reducible refine runI_w ?h1 ?h2); (case h1 => rfl)))
local macro_rules | `(tactic| walk_at "zs") => `(tactic| ((first | walk_at "z1" | walk_at "z2"); try dsimp only [List.set_cons_zero, List.set_cons_succ, S.add, S.nil, S.put]; try simp only [setO_head, del_mk, delO_head, delO_nil]))
local macro_rules | `(tactic| walk_at "zr") => `(tactic| ((with_reducible refine oMul_lst ?_ ?_ ?_) <;> first | omega | (simp only [prep_len, List.length_map, List.length_append, List.length_cons, List.length_nil, List.length_reverse, List.length_replicate]; omega)))
local macro_rules | `(tactic| walk_at "zc") => `(tactic| with_reducible exact is_whole_int _)
local macro_rules | `(tactic| walk_at "zc") => `(tactic| with_reducible exact is_within_int _ _ _)
theorem okr {r : R D} {v : D} (h : wR r (fun y => y = v) (fun _ => False)) : r = .ok v := by
  obtain ⟨y, e, rfl⟩ := wR_ok h
  exact e
/-- how many digits a sign takes -/
def sz (q : Int) : Nat := if q = 2 then 6 else if q = 3 then 4 else if q = 5 then 3 else 2
theorem prime_cases {q : Int} (hq : q ∈ primes) : q = 2 ∨ q = 3 ∨ q = 5 ∨ q = 7 ∨ q = 11 ∨ q = 13 := by
  simpa only [primes, List.mem_cons, List.not_mem_nil, or_false] using hq
theorem size_in_ok {q : Int} (hq : q ∈ primes) : F_sign_size_in [.int q] = .ok (.int (sz q : Nat)) := by
  rcases prime_cases hq with rfl | rfl | rfl | rfl | rfl | rfl <;> kernel_rfl
theorem lt_size_ok {q : Int} (hq : q ∈ primes) : F__law_lt_size [.int q] = .ok (.int (sz q : Nat)) := by
  rcases prime_cases hq with rfl | rfl | rfl | rfl | rfl | rfl <;> kernel_rfl
theorem require_base_ok {q : Int} (hq : q ∈ primes) : F_require_base [.int q] = .ok .non := by
  rcases prime_cases hq with rfl | rfl | rfl | rfl | rfl | rfl <;> kernel_rfl
theorem sign_size_ok {q : Int} (hq : q ∈ primes) : F_sign_size [.int q] = .ok (.int (sz q : Nat)) := by
  rcases prime_cases hq with rfl | rfl | rfl | rfl | rfl | rfl <;> kernel_rfl
theorem sz_bd (q : Int) : 2 ≤ sz q ∧ sz q ≤ 6 := by
  unfold sz
  split
  · omega
  · split
    · omega
    · split <;> omega
local macro_rules | `(tactic| walk_at "zc") => `(tactic| (with_reducible refine size_in_ok ?_; with_reducible assumption))
local macro_rules | `(tactic| walk_at "zc") => `(tactic| (with_reducible refine lt_size_ok ?_; with_reducible assumption))
local macro_rules | `(tactic| walk_at "zc") => `(tactic| (with_reducible refine require_base_ok ?_; with_reducible assumption))
local macro_rules | `(tactic| walk_at "zc") => `(tactic| (with_reducible refine sign_size_ok ?_; with_reducible assumption))

theorem digits_in_ok {q n : Int} {k : Nat} (hq : 0 < q) (hq2 : q < 100) (hk : k < 1000) : F_digits_in [.int q, .int n, .int k] = .ok (.lst ((digs q n k).reverse.map .int)) := by
  unfold F_digits_in
  walk_at "zp"
  unfold f_digits_in
  walk_at "z0"
  walk_at "z"
  refine wf_turns (fun k1 e s => ∃ w, e = [some (.d (.int q)), some (.d (.int (restN q n k1))), some (.d (.int k)), some (.ref 0), w] ∧ s = ⟨1, [(0, .lst ((digs q n k1).map .int))]⟩) ⟨_, rfl, rfl⟩ (fun k1 x e s hk h h => ?_) (fun e s h => ?_)
  · obtain ⟨w, rfl, rfl⟩ := h
    rw [rangeL_len] at hk
    have hdl := digs_len q n k1
    walk_at "z"
    simp [digs]
  · obtain ⟨w, rfl, rfl⟩ := h
    walk_at "z"
    rw [rangeL_len, List.map_reverse]
    rfl
theorem law_digits_ok {q n : Int} {k : Nat} (hq : 0 < q) (hq2 : q < 100) (hk : k < 1000) : F__law_digits [.int q, .int k, .int n] = .ok (.tup ((digs q n k).map .int)) := by
  unfold F__law_digits
  walk_at "zp"
  unfold f__law_digits
  walk_at "z0"
  walk_at "z"
  refine wf_turns (fun k1 e s => ∃ w, e = [some (.d (.int q)), some (.d (.int k)), some (.d (.int n)), w, some (.ref 0), some (.d (.int (restN q n k1)))] ∧ s = ⟨1, [(0, .lst ((digs q n k1).map .int))]⟩) ⟨_, rfl, rfl⟩ (fun k1 x e s hk h h => ?_) (fun e s h => ?_)
  · obtain ⟨w, rfl, rfl⟩ := h
    rw [rangeL_len] at hk
    have hdl := digs_len q n k1
    walk_at "z"
    simp [digs]
  · obtain ⟨w, rfl, rfl⟩ := h
    walk_at "z"
    rw [rangeL_len]
    rfl
local macro_rules | `(tactic| walk_at "zc") => `(tactic| ((with_reducible refine law_digits_ok ?_ ?_ ?_) <;> omega))
theorem lt_digits_ok {q n : Int} {k : Nat} (hq : 0 < q) (hq2 : q < 100) (hk : k < 1000) : F__law_lt_digits [.int q, .int n, .int k] = .ok (.lst ((digs q n k).reverse.map .int)) := by
  unfold F__law_lt_digits
  walk_at "zp"
  unfold f__law_lt_digits
  walk_at "z0"
  walk_at "z"
  rw [List.map_reverse]
def numD (q : Int) (ds : List Int) : Int := ds.foldl (fun a d => a * q + d) 0
theorem numD_snoc (q : Int) (ds : List Int) (d : Int) : numD q (ds ++ [d]) = numD q ds * q + d := by simp [numD, List.foldl_append]
theorem number_of_digits_ok {q : Int} (hq : 0 < q) (hq2 : q < 100) (ds : List Int) : F_number_of_digits [.int q, .lst (ds.map .int)] = .ok (.int (numD q ds)) := by
  unfold F_number_of_digits
  walk_at "zp"
  unfold f_number_of_digits
  walk_at "z0"
  walk_at "z"
  refine wf_turns (fun k e s => ∃ w, e = [some (.d (.int q)), some (.d (.lst (ds.map .int))), some (.d (.int (numD q (ds.take k)))), w] ∧ s = ⟨0, []⟩) ⟨_, rfl, rfl⟩ (fun k x e s hk hx h => ?_) (fun e s h => ?_)
  · obtain ⟨w, rfl, rfl⟩ := h
    rw [List.length_map] at hk
    rw [List.getElem?_map, List.getElem?_eq_getElem hk] at hx
    cases hx
    have e1 : ds.take (k + 1) = ds.take k ++ [ds[k]] := by simp
    walk_at "z"
    exact ⟨_, by rw [e1, numD_snoc], rfl⟩
  · obtain ⟨w, rfl, rfl⟩ := h
    walk_at "z"
    rw [List.length_map, List.take_length]
def wordD (w : List Int) : D := .tup (w.map .int)
def partD (p : List (List Int)) : D := .tup (p.map wordD)
def partsD (ps : List (List (List Int))) : D := .tup (ps.map partD)
theorem joined_ok (p : List (List Int)) (hp : p.flatten.length < 10000) : F_joined [partD p] = .ok (.lst (p.flatten.map .int)) := by
  unfold F_joined
  walk_at "zp"
  unfold f_joined
  walk_at "z0"
  walk_at "z"
  refine wf_turns (fun k e s => ∃ w, e = [some (.d (partD p)), some (.ref 0), w] ∧ s = ⟨1, [(0, .lst ((p.take k).flatten.map .int))]⟩) ⟨_, rfl, rfl⟩ (fun k x e s hk hx h => ?_) (fun e s h => ?_)
  · obtain ⟨w, rfl, rfl⟩ := h
    rw [List.length_map] at hk
    rw [List.getElem?_map, List.getElem?_eq_getElem hk] at hx
    cases hx
    have e1 : p.take (k + 1) = p.take k ++ [p[k]] := by simp
    have e2 : (p.take (k+1)).flatten.length ≤ p.flatten.length := by
      conv => rhs; rw [← List.take_append_drop (k+1) p]
      rw [List.flatten_append, List.length_append]; omega
    rw [e1, List.flatten_append, List.length_append] at e2
    simp only [List.flatten_cons, List.flatten_nil, List.append_nil] at e2
    walk_at "z"
    rw [e1, List.flatten_append, List.map_append]
    simp only [List.flatten_cons, List.flatten_nil, List.append_nil]
  · obtain ⟨w, rfl, rfl⟩ := h
    walk_at "z"
    rw [List.length_map, List.take_length]
local macro_rules | `(tactic| walk_at "zc") => `(tactic| (with_reducible refine joined_ok _ ?_; omega))
theorem many_parts_ok {l : D} {q : Int} (hq : q ∈ primes) {m r n : Nat} (hm : 1 ≤ m) (hm2 : m ≤ 6) (hr : 1 ≤ r) (hr2 : r ≤ 12) (hn : n < 10000) : F_many_parts [fldD l q m, .int r, .int n] = .ok (.int (((sz q * (n + 1) + r * m - 1) / (r * m) : Nat) : Int)) := by
  have h1 : 1 ≤ r * m := Nat.mul_pos hr hm
  have h2 : r * m ≤ 12 * 6 := Nat.mul_le_mul hr2 hm2
  have h3 : ((r * m : Nat) : Int) = (r : Int) * (m : Int) := by simp
  have h4 := sz_bd q
  unfold F_many_parts
  walk_at "zp"
  unfold f_many_parts
  walk_at "z0"
  walk_at "z"
  have : ((sz q * (n + 1) + r * m - 1 : Nat) : Int) = (sz q : Int) * ((n : Int) + 1) + (r : Int) * m - 1 := by
    rw [Int.ofNat_sub (by omega)]
    simp
  rw [Int.natCast_ediv, this, h3]
theorem is_base_ok (q v : Int) : F_is_base [.int q, .int v] = .ok (.bl (decide (0 ≤ v) && decide (v ≤ q - 1))) := by
  unfold F_is_base
  walk_at "zp"
  unfold f_is_base
  walk_at "z0"
  walk_at "z"
local macro_rules | `(tactic| walk_at "zc") => `(tactic| with_reducible exact is_base_ok _ _)
theorem int_ne {i j : Int} {P : Prop} (h2 : ¬ i = j) (h : i = j) : P := absurd h h2
theorem lit_map {α : Type} (f : α → D) (p : D → Bool) {xs : List α} (h : ∀ x ∈ xs, p (f x) = true) : (xs.map f).all p = true := by
  rw [List.all_eq_true]
  intro y hy
  obtain ⟨x, hx, rfl⟩ := List.mem_map.mp hy
  exact h x hx
def inB (q : Int) (x : D) : Bool := match x with
  | .int v => decide (0 ≤ v) && decide (v ≤ q - 1)
  | _ => false
theorem is_word_in_ok {l : D} {q : Int} {m : Nat} (w : List Int) (hw : w.length = m) (hb : ∀ d ∈ w, 0 ≤ d ∧ d < q) (hm2 : m ≤ 6) : F_is_word_in [fldD l q m, wordD w] = .ok (.bl true) := by
  unfold F_is_word_in
  walk_at "zp"
  unfold f_is_word_in
  walk_at "z0"
  walk_at "z"
  · exact int_ne (by assumption) (by rw [List.length_map, hw])
  · refine wp_lcMap (fun x => .bl (inB q x)) (fun x hx => ?_) ?_
    · obtain ⟨v, hv, rfl⟩ := List.mem_map.mp hx
      walk_at "z"
    · walk_at "z"
      rw [lit_map]
      intro x hx
      have := hb x hx
      simp only [inB, Bool.and_eq_true, decide_eq_true_eq]
      omega
def Wd1 (q : Int) (m : Nat) (w : List Int) : Prop := w.length = m ∧ ∀ d ∈ w, 0 ≤ d ∧ d < q
def Pt1 (q : Int) (m r : Nat) (p : List (List Int)) : Prop := p.length = r ∧ ∀ w ∈ p, Wd1 q m w
def isT (x : D) : Bool := true
theorem are_words_ok {l : D} {q : Int} {m r : Nat} (hm2 : m ≤ 6) (hr2 : r ≤ 12) (p : List (List Int)) (h : Pt1 q m r p) : F_are_words [fldD l q m, partD p, .int r] = .ok (.bl true) := by
  have h0 := h.1
  unfold F_are_words
  walk_at "zp"
  unfold f_are_words
  walk_at "z0"
  walk_at "z"
  · exact wp_lcMap (fun x => .bl (isT x)) (fun x hx => by
      obtain ⟨w, hw, rfl⟩ := List.mem_map.mp hx
      have := is_word_in_ok (l := l) w (h.2 w hw).1 (h.2 w hw).2 hm2
      walk_at "z") (by
      walk_at "z"
      rw [lit_map]
      exact fun _ _ => rfl)
  · exact int_ne (by assumption) (by rw [List.length_map, h.1])
theorem require_field_ok {l : D} {q : Int} {m : Nat} : F_require_field [fldD l q m] = .ok .non := by
  unfold F_require_field
  walk_at "zp"
  unfold f_require_field
  walk_at "z0"
  walk_at "z"
theorem require_within_ok {v a b : Int} (h : a ≤ v) (h2 : v ≤ b) : F_require_within [.int v, .int a, .int b] = .ok .non := by
  unfold F_require_within
  walk_at "zp"
  unfold f_require_within
  walk_at "z0"
  walk_at "z"
  · simp_all
local macro_rules | `(tactic| walk_at "zc") => `(tactic| with_reducible exact require_field_ok)
local macro_rules | `(tactic| walk_at "zc") => `(tactic| ((with_reducible refine require_within_ok ?_ ?_) <;> omega))
theorem require_rows_ok {l : D} {q : Int} {m r : Nat} (hr : 1 ≤ r) (hr2 : r ≤ 12) : F_require_rows [fldD l q m, .int r] = .ok .non := by
  unfold F_require_rows
  walk_at "zp"
  unfold f_require_rows
  walk_at "z0"
  walk_at "z"
end K85
end

section
set_option Elab.async false
set_option linter.all false
set_option maxRecDepth 100000
set_option maxHeartbeats 1000000
namespace K85
open Z
local macro_rules | `(tactic| walk_at "z1") => `(tactic| first
  | with_reducible refine wf_seq ?_
  | with_reducible refine wf_ret ?_
  | with_reducible refine wf_retN ?_
  | with_reducible refine wf_set ?_
  | with_reducible refine wf_if ?_
  | with_reducible refine wf_expr ?_
  | with_reducible refine wf_nil ?_
  | with_reducible refine wf_par ?_
  | with_reducible refine wf_put ?_
  | with_reducible refine wf_raise ?_
  | with_reducible refine wf_raiseF ?_
  | with_reducible refine wf_for ?_
  | with_reducible refine wf_brk ?_
  | with_reducible refine wf_cnt ?_
  | ((with_reducible refine wf_frzR (j := ?zj) (xs := ?zx) ?zv ?zg ?_); (case zv => exact rfl); (case zg => first | exact get_head | exact rfl))
  | ((with_reducible refine wf_frzD (x := ?zx) ?zv ?_); (case zv => exact rfl))
  | with_reducible refine wf_asg ?_
  | with_reducible refine wp_K ?_
  | ((with_reducible refine wp_var (w := ?zw) ?zv ?_); (case zv => exact rfl))
  | with_reducible refine wp_op ?_
  | with_reducible refine wp_un ?_
  | with_reducible refine wp_chain ?_
  | with_reducible refine wp_tru ?_
  | with_reducible refine wp_TB ?_
  | with_reducible refine wp_tAnd ?_
  | with_reducible refine wp_tOr ?_
  | with_reducible refine wp_tNot ?_
  | with_reducible refine wp_cAnd ?_
  | with_reducible refine wp_cOr ?_
  | with_reducible refine wp_cNot ?_
  | with_reducible refine wp_cIf ?_
  | with_reducible refine wp_aNil ?_
  | with_reducible refine wp_aCons ?_
  | with_reducible refine wp_aStar ?_
  | with_reducible refine wp_tup ?_
  | with_reducible refine wp_disp ?_
  | with_reducible refine wp_frz ?_
  | with_reducible refine wp_new ?_
  | with_reducible refine wp_done ?_
  | with_reducible refine wp_bi ?_
  | with_reducible refine wp_is ?_
  | with_reducible refine wp_list ?_
  | with_reducible refine wp_pNone ?_
  | with_reducible refine wp_pSome ?_
  | with_reducible refine wp_sl ?_
  | with_reducible refine wp_lSl ?_
  | with_reducible refine wp_rev ?_
  | with_reducible refine wp_lRev ?_
  | with_reducible refine wp_callP_ok ?_
  | with_reducible refine wp_callI ?_
  | with_reducible refine wp_strM ?_
  | with_reducible refine wp_append ?_
  | with_reducible refine wp_extend ?_
  | with_reducible refine wp_iVal ?_
  | with_reducible refine wp_rg1 ?_
  | with_reducible refine wp_rg2 ?_
  | with_reducible refine wp_rg3 ?_
  | with_reducible refine wp_enum ?_
  | with_reducible refine wp_lc ?_
  | with_reducible refine wp_lc2 ?_
  | with_reducible refine wp_fldO ?_
  | with_reducible refine wp_gNm ?_
  | with_reducible refine wp_gFld ?_
  | with_reducible refine wf_fld ?_
  | with_reducible refine wp_make ?_
  | with_reducible refine wp_doneO ?_
  | with_reducible refine wp_gEach ?_
  | with_reducible refine wp_gEach_nil ?_
  | with_reducible refine wp_gAll ?_
  | with_reducible refine wp_gAll_nil ?_
  | with_reducible refine wf_parT ?_
  | with_reducible refine wp_gTp ?_
  | with_reducible refine wp_ok ?_)
local macro_rules | `(tactic| walk_at "zr") => `(tactic| exact rfl)
local macro_rules | `(tactic| walk_at "zr") => `(tactic| ((with_reducible refine oMod_int ?_); first | with_reducible assumption | omega))
local macro_rules | `(tactic| walk_at "zr") => `(tactic| ((with_reducible refine oDiv_int ?_ ?_) <;> first | with_reducible assumption | omega))
local macro_rules | `(tactic| walk_at "zr") => `(tactic| ((with_reducible refine oMul_int ?_); first | with_reducible assumption | omega))
local macro_rules | `(tactic| walk_at "zr") => `(tactic| ((with_reducible refine bDivmod_int ?_ ?_) <;> first | with_reducible assumption | omega))
local macro_rules | `(tactic| walk_at "zr") => `(tactic| with_reducible exact rfl)
local macro_rules | `(tactic| walk_at "zr") => `(tactic| ((with_reducible refine atD_int ?_ ?_) <;> first | with_reducible assumption | omega))
local macro_rules | `(tactic| walk_at "zr") => `(tactic| ((with_reducible refine setD_int ?_ ?_) <;> first | with_reducible assumption | omega))
local macro_rules | `(tactic| walk_at "zr") => `(tactic| with_reducible exact bAll_fun _ _)
local macro_rules | `(tactic| walk_at "zr") => `(tactic| with_reducible exact bAny_fun _ _)
local macro_rules | `(tactic| walk_at "zc") => `(tactic| with_reducible assumption)
local macro_rules | `(tactic| walk_at "zl") => `(tactic| first
  | with_reducible exact rfl
  | with_reducible assumption
  | ((with_reducible refine okR_int ?_ ?_) <;> first | omega | (simp only [List.length_map]; omega))
  | ((with_reducible refine okR2 ?_ ?_ ?_ ?_) <;> first | omega | (simp only [List.length_map]; omega))
  | ((with_reducible refine okR3 ?_ ?_ ?_ ?_ ?_ ?_) <;> first | omega | decide | (simp only [List.length_map]; omega))
  | (simp only [List.length_map, List.length_append, List.length_cons, List.length_nil, List.length_replicate, List.length_reverse, LIM]; omega)
  | exact rfl
  | decide
  | fail)
local macro_rules | `(tactic| walk_at "zr") => `(tactic| with_reducible exact get_head)
local macro_rules | `(tactic| walk_at "zr") => `(tactic| ((with_reducible refine oMul_tup ?_ ?_ ?_) <;> first | omega | decide))
local macro_rules | `(tactic| walk_at "zr") => `(tactic| ((with_reducible refine oAdd_tup ?_); first | omega | (simp only [prep_len, List.length_map, List.length_append, List.length_cons, List.length_nil, List.length_reverse, List.length_replicate]; omega)))
local macro_rules | `(tactic| walk_at "zr") => `(tactic| ((with_reducible refine oAdd_lst ?_); first | omega | (simp only [prep_len, List.length_map, List.length_append, List.length_cons, List.length_nil, List.length_reverse, List.length_replicate]; omega)))
local macro_rules | `(tactic| walk_at "z2") => `(tactic| first
  | ((with_reducible refine Exists.intro ?za (Exists.intro ?zb (Exists.intro ?zc (Exists.intro ?zd (Exists.intro ?ze (And.intro ?z1 (And.intro ?z2 (And.intro ?z3 (And.intro ?z4 (And.intro ?z5 ?_)))))))))); (case z1 => exact rfl); (case z2 => exact rfl); (case z3 => exact rfl); (case z4 => exact rfl); (case z5 => walk_at "zr"))
  | ((with_reducible refine Exists.intro ?za (Exists.intro ?zb (Exists.intro ?zc (Exists.intro ?zd (And.intro ?z1 (And.intro ?z2 (And.intro ?z3 ?_))))))); (case z1 => exact rfl); (case z2 => walk_at "zr"); (case z3 => walk_at "zr"))
  | ((with_reducible refine Exists.intro ?za (Exists.intro ?zb (Exists.intro ?zc (And.intro ?z1 (And.intro ?z2 (And.intro ?z3 ?_)))))); (case z1 => exact rfl); (case z2 => exact rfl); (case z3 => walk_at "zr"))
  | ((with_reducible refine Exists.intro ?za (Exists.intro ?zb (And.intro ?z1 (And.intro ?z2 ?_)))); (case z1 => exact rfl); (case z2 => first | with_reducible assumption | walk_at "zc" | walk_at "zr"))
  | ((with_reducible refine Exists.intro ?za (And.intro ?z1 ?_)); (case z1 => first | exact rfl | ((with_reducible refine asDs_star (zs := ?zq) ?zh); (case zh => exact rfl))))
  | ((with_reducible refine Or.inl (Exists.intro ?za (Exists.intro ?zb (And.intro ?z1 (And.intro ?z2 ?_))))); (case z1 => exact rfl); (case z2 => exact rfl))
  | with_reducible refine And.intro (fun z => absurd z (by decide)) (fun _ => ?_)
  | with_reducible refine And.intro (fun _ => ?_) (fun z => absurd z (by decide))
  | (refine And.intro (fun hz => ?_) (fun hz => ?_) <;> try simp only [decide_eq_true_eq, decide_eq_false_iff_not, Bool.not_eq_true', Bool.not_eq_false', Int.not_le, Int.not_lt, eqv_int, beq_iff_eq, beq_eq_false_iff_ne, ne_eq, bne_iff_ne] at hz)
  | ((with_reducible refine And.intro ?z1 ?_); (case z1 => walk_at "zl"))
  | fail)
local macro_rules | `(tactic| walk_at "z") => `(tactic| repeat' ((first | walk_at "z1" | walk_at "z2"); try dsimp only [List.set_cons_zero, List.set_cons_succ, S.add, S.nil, S.put]; try simp only [setO_head, del_mk, delO_head, delO_nil]))
local macro_rules | `(tactic| walk_at "z0") => `(tactic| simp only [start, List.map_cons, List.map_nil, List.length_cons, List.length_nil, Nat.reduceAdd, Nat.reduceSub, Nat.zero_add, Nat.sub_self, List.replicate_zero, List.replicate_succ, List.cons_append, List.nil_append, List.append_nil])
local macro_rules | `(tactic| walk_at "zp") => `(tactic| ((with_reducible refine runP_w ?h1 ?h2); (case h1 => rfl)))
local macro_rules | `(tactic| walk_at "zp") => `(tactic| ((with_reducible refine runP_of ?h1 ?h2); (case h1 => rfl)))
local macro_rules | `(tactic| walk_at "zi") => `(tactic| ((with_reducible refine runI_w ?h1 ?h2); (case h1 => rfl)))
local macro_rules | `(tactic| walk_at "zs") => `(tactic| ((first | walk_at "z1" | walk_at "z2"); try dsimp only [List.set_cons_zero, List.set_cons_succ, S.add, S.nil, S.put]; try simp only [setO_head, del_mk, delO_head, delO_nil]))
local macro_rules | `(tactic| walk_at "zr") => `(tactic| ((with_reducible refine oMul_lst ?_ ?_ ?_) <;> first | omega | (simp only [prep_len, List.length_map, List.length_append, List.length_cons, List.length_nil, List.length_reverse, List.length_replicate]; omega)))
local macro_rules | `(tactic| walk_at "zc") => `(tactic| with_reducible exact is_whole_int _)
local macro_rules | `(tactic| walk_at "zc") => `(tactic| with_reducible exact is_within_int _ _ _)
local macro_rules | `(tactic| walk_at "zc") => `(tactic| (with_reducible refine size_in_ok ?_; with_reducible assumption))
local macro_rules | `(tactic| walk_at "zc") => `(tactic| (with_reducible refine lt_size_ok ?_; with_reducible assumption))
local macro_rules | `(tactic| walk_at "zc") => `(tactic| (with_reducible refine require_base_ok ?_; with_reducible assumption))
local macro_rules | `(tactic| walk_at "zc") => `(tactic| (with_reducible refine sign_size_ok ?_; with_reducible assumption))
local macro_rules | `(tactic| walk_at "zc") => `(tactic| ((with_reducible refine require_rows_ok ?_ ?_) <;> omega))
local macro_rules | `(tactic| walk_at "zc") => `(tactic| ((with_reducible refine digits_in_ok ?_ ?_ ?_) <;> omega))
local macro_rules | `(tactic| walk_at "zc") => `(tactic| ((with_reducible refine lt_digits_ok ?_ ?_ ?_) <;> omega))
local macro_rules | `(tactic| walk_at "zc") => `(tactic| ((with_reducible refine number_of_digits_ok ?_ ?_ _) <;> omega))
local macro_rules | `(tactic| walk_at "zc") => `(tactic| ((with_reducible refine many_parts_ok ?_ ?_ ?_ ?_ ?_ ?_) <;> first | with_reducible assumption | omega))
theorem prime_bd {q : Int} (hq : q ∈ primes) : 2 ≤ q ∧ q ≤ 13 := by
  rcases prime_cases hq with rfl | rfl | rfl | rfl | rfl | rfl <;> decide
/-- the sign of a number -/
def sg (k : Nat) : Nat := tx2.getD k 0
theorem pos_sg : ∀ k, k < 43 → posOf (sg k) tx2 = some k := by decide
theorem in_sg : ∀ k, k < 43 → tx2.contains (sg k) = true := by decide
theorem get_sg : ∀ k, k < 43 → tx2[k]? = some (sg k) := by decide
theorem tx2_len : tx2.length = 43 := by decide
/-- a letter by the numbers of its signs -/
def letD (ks : List Nat) : D := .str (ks.map sg)
def sgD (c : Nat) : D := .str [c]
theorem kIndex_sg {k : Nat} (h : k < 43) : kIndex tx2 [.str [sg k]] = some (.int (k : Nat)) := by
  unfold kIndex
  simp only [pos_sg k h]
  rfl
def inS (x : D) : Bool := match x with
  | .str [c] => tx2.contains c
  | _ => false
theorem require_letter_ok (ks : List Nat) (hl : ks.length ≤ 400) (hk : ∀ k ∈ ks, k < 43) : F_require_letter [letD ks] = .ok .non := by
  unfold F_require_letter
  walk_at "zp"
  unfold f_require_letter
  walk_at "z0"
  walk_at "z"
  · simp_all
    omega
  · refine wp_lcMap (fun x => .bl (inS x)) (fun x hx => ?_) ?_
    · rw [List.map_map] at hx
      obtain ⟨v, hv, rfl⟩ := List.mem_map.mp hx
      have := in_sg v (hk v hv)
      walk_at "z"
    · have : (List.map (fun c => D.str [c]) (List.map sg ks)).all inS = true := by
        rw [List.map_map]
        exact lit_map _ _ fun k h => in_sg k (hk k h)
      rw [show (List.map (fun x => D.bl (inS x)) (List.map (fun c => D.str [c]) (List.map sg ks))) = ((List.map (fun c => D.str [c]) (List.map sg ks)).map fun x => D.bl (inS x)) from rfl]
      walk_at "z"
      rename_i hz
      rw [this] at hz
      cases hz
/-- the digits of one sign -/
def sgd (q : Int) (k : Nat) : List Int := (digs q (k : Int) (sz q)).reverse
def code (q : Int) (ks : List Nat) : List Int := (ks.map fun k => sgd q (k + 1)).flatten
def chunk {α : Type} (n k : Nat) (xs : List α) : List (List α) := (List.range k).map fun i => (xs.drop (i * n)).take n
theorem cut_chunk {α : Type} (xs : List α) (i n : Nat) : cutD xs (some ((i : Int) * (n : Int))) (some ((i : Int) * (n : Int) + (n : Int))) = (xs.drop (i * n)).take n := by
  have e : (i : Int) * (n : Int) = ((i * n : Nat) : Int) := by simp
  rw [e]
  unfold cutD sIx
  dsimp only
  rw [if_neg (by omega), if_neg (by omega)]
  have e2 : ((i * n : Nat) : Int).toNat = i * n := by omega
  have e3 : (((i * n : Nat) : Int) + (n : Int)).toNat = i * n + n := by omega
  rw [e2, e3]
  by_cases h : i * n ≤ xs.length
  · rw [Nat.min_eq_left h]
    by_cases h2 : i * n + n ≤ xs.length
    · rw [Nat.min_eq_left h2]
      congr 1
      omega
    · rw [Nat.min_eq_right (by omega)]
      rw [List.take_of_length_le (by rw [List.length_drop]; omega), List.take_of_length_le (by rw [List.length_drop]; omega)]
  · rw [Nat.min_eq_right (by omega), List.drop_of_length_le (by omega), List.drop_of_length_le (by omega)]
    simp
def atN (g : Nat → D) (x : D) : D := match x with
  | .int v => g v.toNat
  | _ => .non
theorem range_map (g : Nat → D) (n : Nat) : (rangeL 0 n).map (atN g) = (List.range n).map g := by
  unfold rangeL
  rw [List.map_map]
  refine List.map_congr_left fun k _ => ?_
  show g ((0 : Int) + (k : Int)).toNat = g k
  congr 1
  omega
theorem chunk_len {α : Type} (n k : Nat) (xs : List α) : (chunk n k xs).length = k := by simp [chunk]
theorem chunk_map {α : Type} (f : List α → D) (n k : Nat) (xs : List α) : (chunk n k xs).map f = (List.range k).map fun i => f ((xs.drop (i * n)).take n) := by
  unfold chunk
  rw [List.map_map]
  rfl
theorem pad_end {n0 L P : Nat} (hP : 1 ≤ P) (h1 : n0 ≤ L) (h2 : L ≤ (n0 + P - 1) / P * P) (h3 : L % P = 0) : L = (n0 + P - 1) / P * P := by
  obtain ⟨a, rfl⟩ : ∃ a, L = a * P := ⟨L / P, by have := Nat.div_add_mod L P; rw [h3, Nat.mul_comm] at this; omega⟩
  have h4 : (n0 + P - 1) / P ≤ a := by
    have : (n0 + P - 1) / P ≤ (a * P + (P - 1)) / P := Nat.div_le_div_right (by omega)
    have h5 : (a * P + (P - 1)) / P = a := by
      rw [Nat.mul_comm, Nat.mul_add_div (by omega), Nat.div_eq_of_lt (by omega)]
      rfl
    omega
  have := Nat.mul_le_mul_right P h4
  omega
theorem pad_le {n0 P : Nat} (hP : 1 ≤ P) : n0 ≤ (n0 + P - 1) / P * P ∧ (n0 + P - 1) / P * P ≤ n0 + P - 1 := by
  have h1 := Nat.div_add_mod (n0 + P - 1) P
  have h2 := Nat.mod_lt (n0 + P - 1) (show 0 < P by omega)
  rw [Nat.mul_comm] at h1
  omega
theorem lt_cut_ok {m r : Nat} (hm : 1 ≤ m) (hm2 : m ≤ 6) (hr : 1 ≤ r) (hr2 : r ≤ 12) (ds : List Int) (hl : ds.length < 10000) : F__law_lt_cut [.int m, .int r, .lst (ds.map .int)] = .ok (partsD (chunk r ((ds.length + r * m - 1) / (r * m)) (chunk m ((ds.length + r * m - 1) / (r * m) * r) (ds ++ List.replicate ((ds.length + r * m - 1) / (r * m) * (r * m) - ds.length) 0)))) := by
  have h1 : 1 ≤ r * m := Nat.mul_pos hr hm
  have h2 : r * m ≤ 12 * 6 := Nat.mul_le_mul hr2 hm2
  have h3 : ((r * m : Nat) : Int) = (r : Int) * (m : Int) := by simp
  have h4 := pad_le (n0 := ds.length) h1
  generalize hK : (ds.length + r * m - 1) / (r * m) = K at *
  unfold F__law_lt_cut
  walk_at "zp"
  unfold f__law_lt_cut
  walk_at "z0"
  walk_at "z"
  refine wf_while (fun n e s => ∃ j, ds.length + j + n = K * (r * m) ∧ e = [some (W.d (D.int ↑m)), some (W.d (D.int ↑r)), some (W.d (D.lst (List.map D.int ds))), none,
        some (W.d (D.int (↑r * ↑m))), some (W.ref 0), none] ∧ s = ⟨1, [(0, .lst ((ds ++ List.replicate j 0).map .int))]⟩) ⟨K * (r * m) - ds.length, by unfold WFUEL; omega, 0, by omega, rfl, by simp⟩ (fun n e s h => ?_)
  obtain ⟨j, hj, rfl, rfl⟩ := h
  have h5 : (0 : Int) < (r : Int) * (m : Int) := by omega
  iterate 20 (walk_at "zs")
  · rename_i hz
    rw [List.length_map, List.length_append, List.length_replicate, ← h3] at hz
    have hz2 : 0 < (ds.length + j) % (r * m) := by omega
    have hn : 1 ≤ n := by
      rcases Nat.eq_zero_or_pos n with rfl | h
      · rw [show ds.length + j = K * (r * m) by omega, Nat.mul_mod_left] at hz2
        omega
      · exact h
    walk_at "z"
    refine ⟨n - 1, by omega, j + 1, by omega, trivial, ?_⟩
    rw [List.replicate_succ', ← List.append_assoc, List.map_append (l₂ := [0])]
    rfl
  · rename_i hz
    rw [List.length_map, List.length_append, List.length_replicate, ← h3] at hz
    have hz2 : (ds.length + j) % (r * m) = 0 := by omega
    have hn := pad_end h1 (n0 := ds.length) (L := ds.length + j) (by omega) (by rw [hK]; omega) hz2
    rw [hK] at hn
    obtain rfl : j = K * (r * m) - ds.length := by omega
    have hL : (ds ++ List.replicate (K * (r * m) - ds.length) 0).length = K * (r * m) := by
      rw [List.length_append, List.length_replicate]
      omega
    generalize ds ++ List.replicate (K * (r * m) - ds.length) 0 = es at *
    have hd : ((es.map D.int).length : Int) / (m : Int) = ((K * r : Nat) : Int) := by
      rw [List.length_map, hL, ← Int.natCast_ediv, ← Nat.mul_assoc, Nat.mul_div_cancel _ (by omega)]
    have hKr : K * r ≤ K * (r * m) := by rw [← Nat.mul_assoc]; exact Nat.le_mul_of_pos_right _ (by omega)
    have hok : okR (((es.map D.int).length : Int) / (m : Int)) = true := by rw [hd]; exact okR_int (by omega) (by omega)
    iterate 17 (walk_at "zs")
    refine wp_lcMap (atN fun a => wordD ((es.drop (a * m)).take m)) (fun x hx => ?_) ?_
    · obtain ⟨a, ha, rfl⟩ := rangeL_mem hx
      walk_at "z"
      refine ⟨?_, rfl⟩
      rw [Int.zero_add, cut_chunk, ← List.map_drop, ← List.map_take]
      rfl
    · have hd2 : (((K * r : Nat) : Int)).toNat = K * r := by omega
      rw [hd, range_map, hd2, ← chunk_map]
      have hWl := chunk_len m (K * r) es
      generalize chunk m (K * r) es = vs at *
      have he : ((vs.map wordD).length : Int) / (r : Int) = (K : Int) := by
        rw [List.length_map, hWl, ← Int.natCast_ediv, Nat.mul_div_cancel _ (by omega)]
      have hKK : K ≤ K * r := Nat.le_mul_of_pos_right _ (by omega)
      have hok2 : okR (((vs.map wordD).length : Int) / (r : Int)) = true := by rw [he]; exact okR_int (by omega) (by omega)
      walk_at "z"
      refine wp_lcMap (atN fun a => partD ((vs.drop (a * r)).take r)) (fun x hx => ?_) ?_
      · obtain ⟨a, ha, rfl⟩ := rangeL_mem hx
        walk_at "z"
        refine ⟨?_, rfl⟩
        rw [Int.zero_add, cut_chunk, ← List.map_drop, ← List.map_take]
        rfl
      · rw [he, range_map, Int.toNat_natCast, ← chunk_map]
        have hWl := chunk_len r K vs
        generalize chunk r K vs = us at *
        walk_at "z"
        rfl
/-- the cut of a row of digits, filled up -/
def cutP (m r : Nat) (ds : List Int) : List (List (List Int)) := chunk r ((ds.length + r * m - 1) / (r * m)) (chunk m ((ds.length + r * m - 1) / (r * m) * r) (ds ++ List.replicate ((ds.length + r * m - 1) / (r * m) * (r * m) - ds.length) 0))
theorem cut_ok {m r : Nat} (hm : 1 ≤ m) (hm2 : m ≤ 6) (hr : 1 ≤ r) (hr2 : r ≤ 12) (ds : List Int) (hl : ds.length < 10000) : F__law_lt_cut [.int m, .int r, .lst (ds.map .int)] = .ok (partsD (cutP m r ds)) := lt_cut_ok hm hm2 hr hr2 ds hl
def enc (q : Int) (m r : Nat) (ks : List Nat) : List (List (List Int)) := cutP m r (code q ks ++ List.replicate (sz q) 0)
theorem sgd_len (q : Int) (k : Nat) : (sgd q k).length = sz q := by rw [sgd, List.length_reverse, digs_len]
theorem code_len (q : Int) : ∀ ks : List Nat, (code q ks).length = ks.length * sz q
  | [] => by simp [code]
  | k :: ks => by
    have := code_len q ks
    unfold code at *
    rw [List.map_cons, List.flatten_cons, List.length_append, this, sgd_len, List.length_cons, Nat.succ_mul]
    omega
theorem code_snoc (q : Int) (ks : List Nat) (k : Nat) : code q (ks ++ [k]) = code q ks ++ sgd q (k + 1) := by simp [code]
theorem digs_zero (q : Int) : ∀ k, digs q 0 k = List.replicate k 0
  | 0 => rfl
  | k + 1 => by
    have h : ∀ k, restN q 0 k = 0 := by
      intro k
      induction k with
      | zero => rfl
      | succ k ih => rw [restN, ih, Int.zero_ediv]
    rw [digs, digs_zero q k, h, Int.zero_emod, List.replicate_succ']
theorem lt_signs_ok : F__law_lt_signs [] = .ok (.str tx2) := by rfl
local macro_rules | `(tactic| walk_at "zc") => `(tactic| with_reducible exact lt_signs_ok)
theorem kIndex_sgT {t : List Nat} {k : Nat} (h : k < 43) (ht : t = tx2) : kIndex t [.str [sg k]] = some (.int (k : Nat)) := by
  rw [ht]
  exact kIndex_sg h
local macro_rules | `(tactic| walk_at "zr") => `(tactic| ((with_reducible refine kIndex_sgT ?_ ?_) <;> first | with_reducible assumption | exact rfl))
theorem rep_zero (n : Nat) : rep n [D.int 0] = (List.replicate n (0 : Int)).map .int := by
  induction n with
  | zero => rfl
  | succ n ih => rw [rep, ih, List.replicate_succ]; rfl
theorem lt_parts_ok {q : Int} {m r : Nat} (hq : q ∈ primes) (hm : 1 ≤ m) (hm2 : m ≤ 6) (hr : 1 ≤ r) (hr2 : r ≤ 12) (ks : List Nat) (hl : ks.length ≤ 400) (hk : ∀ k ∈ ks, k < 43) : F__law_lt_parts [.int q, .int m, .int r, letD ks] = .ok (partsD (enc q m r ks)) := by
  have hqb := prime_bd hq
  have hsz := sz_bd q
  unfold F__law_lt_parts
  walk_at "zp"
  unfold f__law_lt_parts
  walk_at "z0"
  walk_at "z"
  refine wf_turns (fun j e s => ∃ w, e = [some (.d (.int q)), some (.d (.int m)), some (.d (.int r)), some (.d (letD ks)), some (.ref 0), w] ∧ s = ⟨1, [(0, .lst ((code q (ks.take j)).map .int))]⟩) ⟨_, rfl, rfl⟩ (fun j x e s hj hx h => ?_) (fun e s h => ?_)
  · obtain ⟨w, rfl, rfl⟩ := h
    simp only [List.length_map] at hj
    rw [List.map_map, List.getElem?_map, List.getElem?_eq_getElem hj] at hx
    simp only [Function.comp, Option.map_some, Option.some.injEq] at hx
    subst hx
    have hkj := hk _ (List.getElem_mem hj)
    have e1 : ks.take (j + 1) = ks.take j ++ [ks[j]] := by simp
    have hcl := code_len q (ks.take j)
    have hm1 : (ks.take j).length * sz q ≤ 400 * 6 := Nat.mul_le_mul (by rw [List.length_take]; omega) hsz.2
    generalize ks[j] = k at *
    have hdl := digs_len q ((k : Int) + 1) (sz q)
    walk_at "z"
    rw [e1, code_snoc, List.map_append]
    rfl
  · obtain ⟨w, rfl, rfl⟩ := h
    simp only [List.length_map, List.take_length]
    have hcl := code_len q ks
    have hm1 : ks.length * sz q ≤ 400 * 6 := Nat.mul_le_mul hl hsz.2
    have hcut := cut_ok hm hm2 hr hr2 (code q ks ++ List.replicate (sz q) 0) (by rw [List.length_append, List.length_replicate]; omega)
    rw [List.map_append, ← rep_zero] at hcut
    have e2 : ((sz q : Nat) : Int).toNat = sz q := by omega
    rw [← e2] at hcut
    walk_at "z"
    rw [e2]
    rfl
def codeN (q : Int) (ns : List Int) : List Int := (ns.map fun n => (digs q n (sz q)).reverse).flatten
theorem codeN_snoc (q : Int) (ns : List Int) (n : Int) : codeN q (ns ++ [n]) = codeN q ns ++ (digs q n (sz q)).reverse := by simp [codeN]
theorem codeN_len (q : Int) : ∀ ns : List Int, (codeN q ns).length = ns.length * sz q
  | [] => by simp [codeN]
  | k :: ns => by
    have := codeN_len q ns
    unfold codeN at *
    rw [List.map_cons, List.flatten_cons, List.length_append, this, List.length_reverse, digs_len, List.length_cons, Nat.succ_mul]
    omega
theorem codeN_code (q : Int) (ks : List Nat) : codeN q ((ks.map fun (k : Nat) => (k : Int) + 1) ++ [0]) = code q ks ++ List.replicate (sz q) 0 := by
  rw [codeN_snoc, digs_zero, List.reverse_replicate]
  congr 1
  unfold codeN code
  rw [List.map_map]
  rfl
theorem turns_mul {n m : Nat} (h : 1 ≤ m) : turnsOf 0 ((n * m : Nat) : Int) (m : Int) = n := by
  unfold turnsOf
  rw [if_pos (by omega)]
  rcases Nat.eq_zero_or_pos n with rfl | hn
  · simp
  · have hp : 0 < n * m := Nat.mul_pos hn h
    rw [if_pos (by omega)]
    have e : ((n * m : Nat) : Int) - 0 - 1 = (((n - 1) * m + (m - 1) : Nat) : Int) := by
      have : (n - 1) * m + m = n * m := by
        conv => rhs; rw [show n = (n - 1) + 1 by omega, Nat.succ_mul]
      omega
    rw [e, ← Int.natCast_ediv]
    have e2 : ((n - 1) * m + (m - 1)) / m = n - 1 := by
      rw [Nat.mul_comm, Nat.mul_add_div (by omega), Nat.div_eq_of_lt (by omega)]
      rfl
    rw [e2]
    omega
theorem rangeC_map (g : Nat → D) (n m : Nat) : (rangeC 0 (m : Int) n).map (atN g) = (List.range n).map fun k => g (k * m) := by
  unfold rangeC
  rw [List.map_map]
  refine List.map_congr_left fun k _ => ?_
  show g ((0 : Int) + (k : Int) * (m : Int)).toNat = g (k * m)
  congr 1
  have : (k : Int) * (m : Int) = ((k * m : Nat) : Int) := by simp
  rw [this]
  omega
theorem rangeC_mem {m : Int} {n : Nat} {x : D} (h : x ∈ rangeC 0 m n) : ∃ k : Nat, k < n ∧ x = .int ((k : Int) * m) := by
  unfold rangeC at h
  obtain ⟨k, hk, rfl⟩ := List.mem_map.mp h
  exact ⟨k, List.mem_range.mp hk, by rw [Int.zero_add]⟩
/-- a number of a sign -/
def posD (x : D) : D := match x with
  | .str [c] => match posOf c tx2 with
    | some i => .int ((i : Int) + 1)
    | none => .non
  | _ => .non
theorem parts_in_ok {l : D} {q : Int} {m r : Nat} (hq : q ∈ primes) (hm : 1 ≤ m) (hm2 : m ≤ 6) (hr : 1 ≤ r) (hr2 : r ≤ 12) (ks : List Nat) (hl : ks.length ≤ 400) (hk : ∀ k ∈ ks, k < 43) : F_parts_in [fldD l q m, .int r, letD ks] = .ok (partsD (enc q m r ks)) := by
  have hqb := prime_bd hq
  have hsz := sz_bd q
  unfold F_parts_in
  walk_at "zp"
  unfold f_parts_in
  walk_at "z0"
  walk_at "z"
  refine wp_lcMap posD (fun x hx => ?_) ?_
  · rw [List.map_map] at hx
    obtain ⟨k, hk1, hx⟩ := List.mem_map.mp hx
    simp only [Function.comp] at hx
    subst hx
    have := hk k hk1
    walk_at "z"
    refine ⟨?_, rfl⟩
    unfold posD
    simp only [pos_sg k this]
  · have e0 : ((ks.map sg).map (fun c => D.str [c])).map posD = ks.map fun (k : Nat) => D.int ((k : Int) + 1) := by
      rw [List.map_map, List.map_map]
      refine List.map_congr_left fun k h => ?_
      show posD (.str [sg k]) = _
      unfold posD
      simp only [pos_sg k (hk k h)]
    rw [e0]
    walk_at "z"
    have e1 : ks.map (fun (k : Nat) => D.int ((k : Int) + 1)) ++ [D.int 0] = ((ks.map fun (k : Nat) => (k : Int) + 1) ++ [0]).map D.int := by
      rw [List.map_append, List.map_map]
      rfl
    rw [e1]
    have hcc := codeN_code q ks
    have hnl : ((ks.map fun (k : Nat) => (k : Int) + 1) ++ [0]).length = ks.length + 1 := by simp
    generalize ((ks.map fun (k : Nat) => (k : Int) + 1) ++ [0]) = ns at *
    refine wf_turns (fun j e s => ∃ w, e = [some (W.d (fldD l q ↑m)), some (W.d (D.int ↑r)), some (W.d (letD ks)), some (W.ref 0), w, none,
        some (W.d (D.int ↑(sz q))), some (W.d (D.int (↑r * ↑m))), none, none] ∧ s = ⟨1, [(0, .lst ((codeN q (ns.take j)).map .int))]⟩) ⟨_, rfl, rfl⟩ (fun j x e s hj hx h => ?_) (fun e s h => ?_)
    · obtain ⟨w, rfl, rfl⟩ := h
      simp only [List.length_map] at hj
      rw [List.getElem?_map, List.getElem?_eq_getElem hj] at hx
      cases hx
      have e1 : ns.take (j + 1) = ns.take j ++ [ns[j]] := by simp
      have hcl := codeN_len q (ns.take j)
      have hm1 : (ns.take j).length * sz q ≤ 401 * 6 := Nat.mul_le_mul (by rw [List.length_take]; omega) hsz.2
      generalize ns[j] = k at *
      have hdl := digs_len q k (sz q)
      walk_at "z"
      rw [e1, codeN_snoc, List.map_append]
    · obtain ⟨w, rfl, rfl⟩ := h
      simp only [List.length_map, List.take_length]
      have hcl := codeN_len q ns
      rw [hnl] at hcl
      have hm1 : (ks.length + 1) * sz q ≤ 401 * 6 := Nat.mul_le_mul (by omega) hsz.2
      rw [hcc] at *
      have h1 : 1 ≤ r * m := Nat.mul_pos hr hm
      have h2 : r * m ≤ 12 * 6 := Nat.mul_le_mul hr2 hm2
      have h3 : ((r * m : Nat) : Int) = (r : Int) * (m : Int) := by simp
      have henc : enc q m r ks = cutP m r (code q ks ++ List.replicate (sz q) 0) := rfl
      rw [henc]
      generalize code q ks ++ List.replicate (sz q) 0 = ds at *
      have h4 := pad_le (n0 := ds.length) h1
      have hK : (sz q * (ks.length + 1) + r * m - 1) / (r * m) = (ds.length + r * m - 1) / (r * m) := by rw [hcl, Nat.mul_comm]
      unfold cutP
      rw [← hK] at h4 ⊢
      generalize hKK : (sz q * (ks.length + 1) + r * m - 1) / (r * m) = K at *
      have hmp := many_parts_ok (l := l) hq hm hm2 hr hr2 (show (ks.map sg).length < 10000 by rw [List.length_map]; omega)
      rw [List.length_map, hKK, ← List.length_map (f := sg)] at hmp
      have hk3 : (r : Int) * (m : Int) * (K : Int) = ((K * (r * m) : Nat) : Int) := by
        rw [Nat.mul_comm K, Int.natCast_mul, h3]
      have hk4 : ((r : Int) * (m : Int) * (K : Int) - ((ds.map D.int).length : Int)).toNat = K * (r * m) - ds.length := by
        rw [hk3, List.length_map]
        omega
      have hl1 : ((r : Int) * (m : Int) * (K : Int) - ((ds.map D.int).length : Int)) ≤ 1000000 ∧ -1000000 ≤ ((r : Int) * (m : Int) * (K : Int) - ((ds.map D.int).length : Int)) := by
        rw [hk3, List.length_map]
        omega
      have hrep : ds.map D.int ++ rep ((r : Int) * (m : Int) * (K : Int) - ((ds.map D.int).length : Int)).toNat [D.int 0] = (ds ++ List.replicate (K * (r * m) - ds.length) 0).map D.int := by
        rw [hk4, rep_zero, List.map_append]
      walk_at "z"
      refine ⟨by rw [prep_len, hk4, List.length_map]; simp only [LIM, List.length_cons, List.length_nil]; omega, ?_⟩
      rw [hrep]
      have hL : (ds ++ List.replicate (K * (r * m) - ds.length) 0).length = K * (r * m) := by
        rw [List.length_append, List.length_replicate]
        omega
      generalize ds ++ List.replicate (K * (r * m) - ds.length) 0 = es at *
      have hKr : K * r ≤ K * (r * m) := by rw [← Nat.mul_assoc]; exact Nat.le_mul_of_pos_right _ (by omega)
      have hKK : K ≤ K * r := Nat.le_mul_of_pos_right _ (by omega)
      walk_at "z"
      refine wp_lcMap (atN fun a => wordD ((es.drop a).take m)) (fun x hx => ?_) ?_
      · obtain ⟨a, ha, rfl⟩ := rangeC_mem hx
        walk_at "z"
        refine ⟨?_, rfl⟩
        rw [cut_chunk, ← List.map_drop, ← List.map_take]
        show W.d (wordD _) = W.d (wordD ((es.drop ((a : Int) * (m : Int)).toNat).take m))
        have : ((a : Int) * (m : Int)).toNat = a * m := by
          have : (a : Int) * (m : Int) = ((a * m : Nat) : Int) := by simp
          rw [this]
          omega
        rw [this]
      · have hEL : ((es.map D.int).length : Int) = ((K * r * m : Nat) : Int) := by rw [List.length_map, hL, Nat.mul_assoc]
        rw [hEL, turns_mul hm, rangeC_map, ← chunk_map wordD]
        have hWl := chunk_len m (K * r) es
        generalize chunk m (K * r) es = vs at *
        walk_at "z"
        refine wp_lcMap (atN fun a => partD ((vs.drop a).take r)) (fun x hx => ?_) ?_
        · obtain ⟨a, ha, rfl⟩ := rangeC_mem hx
          walk_at "z"
          refine ⟨?_, rfl⟩
          rw [cut_chunk, ← List.map_drop, ← List.map_take]
          show W.d (partD _) = W.d (partD ((vs.drop ((a : Int) * (r : Int)).toNat).take r))
          have : ((a : Int) * (r : Int)).toNat = a * r := by
            have : (a : Int) * (r : Int) = ((a * r : Nat) : Int) := by simp
            rw [this]
            omega
          rw [this]
        · have hVL : ((vs.map wordD).length : Int) = ((K * r : Nat) : Int) := by rw [List.length_map, hWl]
          rw [hVL, turns_mul hr, rangeC_map, ← chunk_map partD]
          have hWl := chunk_len r K vs
          generalize chunk r K vs = us at *
          walk_at "z"
          rfl
end K85
end

section
set_option Elab.async false
set_option linter.all false
set_option maxRecDepth 100000
set_option maxHeartbeats 1000000
namespace K85
open Z
local macro_rules | `(tactic| walk_at "z1") => `(tactic| first
  | with_reducible refine wf_seq ?_
  | with_reducible refine wf_ret ?_
  | with_reducible refine wf_retN ?_
  | with_reducible refine wf_set ?_
  | with_reducible refine wf_if ?_
  | with_reducible refine wf_expr ?_
  | with_reducible refine wf_nil ?_
  | with_reducible refine wf_par ?_
  | with_reducible refine wf_put ?_
  | with_reducible refine wf_raise ?_
  | with_reducible refine wf_raiseF ?_
  | with_reducible refine wf_for ?_
  | with_reducible refine wf_brk ?_
  | with_reducible refine wf_cnt ?_
  | ((with_reducible refine wf_frzR (j := ?zj) (xs := ?zx) ?zv ?zg ?_); (case zv => exact rfl); (case zg => first | exact get_head | exact rfl))
  | ((with_reducible refine wf_frzD (x := ?zx) ?zv ?_); (case zv => exact rfl))
  | with_reducible refine wf_asg ?_
  | with_reducible refine wp_K ?_
  | ((with_reducible refine wp_var (w := ?zw) ?zv ?_); (case zv => exact rfl))
  | with_reducible refine wp_op ?_
  | with_reducible refine wp_un ?_
  | with_reducible refine wp_chain ?_
  | with_reducible refine wp_tru ?_
  | with_reducible refine wp_TB ?_
  | with_reducible refine wp_tAnd ?_
  | with_reducible refine wp_tOr ?_
  | with_reducible refine wp_tNot ?_
  | with_reducible refine wp_cAnd ?_
  | with_reducible refine wp_cOr ?_
  | with_reducible refine wp_cNot ?_
  | with_reducible refine wp_cIf ?_
  | with_reducible refine wp_aNil ?_
  | with_reducible refine wp_aCons ?_
  | with_reducible refine wp_aStar ?_
  | with_reducible refine wp_tup ?_
  | with_reducible refine wp_disp ?_
  | with_reducible refine wp_frz ?_
  | with_reducible refine wp_new ?_
  | with_reducible refine wp_done ?_
  | with_reducible refine wp_bi ?_
  | with_reducible refine wp_is ?_
  | with_reducible refine wp_list ?_
  | with_reducible refine wp_pNone ?_
  | with_reducible refine wp_pSome ?_
  | with_reducible refine wp_sl ?_
  | with_reducible refine wp_lSl ?_
  | with_reducible refine wp_rev ?_
  | with_reducible refine wp_lRev ?_
  | with_reducible refine wp_callP_ok ?_
  | with_reducible refine wp_callI ?_
  | with_reducible refine wp_strM ?_
  | with_reducible refine wp_append ?_
  | with_reducible refine wp_extend ?_
  | with_reducible refine wp_iVal ?_
  | with_reducible refine wp_rg1 ?_
  | with_reducible refine wp_rg2 ?_
  | with_reducible refine wp_rg3 ?_
  | with_reducible refine wp_enum ?_
  | with_reducible refine wp_lc ?_
  | with_reducible refine wp_lc2 ?_
  | with_reducible refine wp_fldO ?_
  | with_reducible refine wp_gNm ?_
  | with_reducible refine wp_gFld ?_
  | with_reducible refine wf_fld ?_
  | with_reducible refine wp_make ?_
  | with_reducible refine wp_doneO ?_
  | with_reducible refine wp_gEach ?_
  | with_reducible refine wp_gEach_nil ?_
  | with_reducible refine wp_gAll ?_
  | with_reducible refine wp_gAll_nil ?_
  | with_reducible refine wf_parT ?_
  | with_reducible refine wp_gTp ?_
  | with_reducible refine wp_ok ?_)
local macro_rules | `(tactic| walk_at "zr") => `(tactic| exact rfl)
local macro_rules | `(tactic| walk_at "zr") => `(tactic| ((with_reducible refine oMod_int ?_); first | with_reducible assumption | omega))
local macro_rules | `(tactic| walk_at "zr") => `(tactic| ((with_reducible refine oDiv_int ?_ ?_) <;> first | with_reducible assumption | omega))
local macro_rules | `(tactic| walk_at "zr") => `(tactic| ((with_reducible refine oMul_int ?_); first | with_reducible assumption | omega))
local macro_rules | `(tactic| walk_at "zr") => `(tactic| ((with_reducible refine bDivmod_int ?_ ?_) <;> first | with_reducible assumption | omega))
local macro_rules | `(tactic| walk_at "zr") => `(tactic| with_reducible exact rfl)
local macro_rules | `(tactic| walk_at "zr") => `(tactic| ((with_reducible refine atD_int ?_ ?_) <;> first | with_reducible assumption | omega))
local macro_rules | `(tactic| walk_at "zr") => `(tactic| ((with_reducible refine setD_int ?_ ?_) <;> first | with_reducible assumption | omega))
local macro_rules | `(tactic| walk_at "zr") => `(tactic| with_reducible exact bAll_fun _ _)
local macro_rules | `(tactic| walk_at "zr") => `(tactic| with_reducible exact bAny_fun _ _)
local macro_rules | `(tactic| walk_at "zc") => `(tactic| with_reducible assumption)
local macro_rules | `(tactic| walk_at "zl") => `(tactic| first
  | with_reducible exact rfl
  | with_reducible assumption
  | ((with_reducible refine okR_int ?_ ?_) <;> first | omega | (simp only [List.length_map]; omega))
  | ((with_reducible refine okR2 ?_ ?_ ?_ ?_) <;> first | omega | (simp only [List.length_map]; omega))
  | ((with_reducible refine okR3 ?_ ?_ ?_ ?_ ?_ ?_) <;> first | omega | decide | (simp only [List.length_map]; omega))
  | (simp only [List.length_map, List.length_append, List.length_cons, List.length_nil, List.length_replicate, List.length_reverse, LIM]; omega)
  | exact rfl
  | decide
  | fail)
local macro_rules | `(tactic| walk_at "zr") => `(tactic| with_reducible exact get_head)
local macro_rules | `(tactic| walk_at "zr") => `(tactic| ((with_reducible refine oMul_tup ?_ ?_ ?_) <;> first | omega | decide))
local macro_rules | `(tactic| walk_at "zr") => `(tactic| ((with_reducible refine oAdd_tup ?_); first | omega | (simp only [prep_len, List.length_map, List.length_append, List.length_cons, List.length_nil, List.length_reverse, List.length_replicate]; omega)))
local macro_rules | `(tactic| walk_at "zr") => `(tactic| ((with_reducible refine oAdd_lst ?_); first | omega | (simp only [prep_len, List.length_map, List.length_append, List.length_cons, List.length_nil, List.length_reverse, List.length_replicate]; omega)))
local macro_rules | `(tactic| walk_at "z2") => `(tactic| first
  | ((with_reducible refine Exists.intro ?za (Exists.intro ?zb (Exists.intro ?zc (Exists.intro ?zd (Exists.intro ?ze (And.intro ?z1 (And.intro ?z2 (And.intro ?z3 (And.intro ?z4 (And.intro ?z5 ?_)))))))))); (case z1 => exact rfl); (case z2 => exact rfl); (case z3 => exact rfl); (case z4 => exact rfl); (case z5 => walk_at "zr"))
  | ((with_reducible refine Exists.intro ?za (Exists.intro ?zb (Exists.intro ?zc (Exists.intro ?zd (And.intro ?z1 (And.intro ?z2 (And.intro ?z3 ?_))))))); (case z1 => exact rfl); (case z2 => walk_at "zr"); (case z3 => walk_at "zr"))
  | ((with_reducible refine Exists.intro ?za (Exists.intro ?zb (Exists.intro ?zc (And.intro ?z1 (And.intro ?z2 (And.intro ?z3 ?_)))))); (case z1 => exact rfl); (case z2 => exact rfl); (case z3 => walk_at "zr"))
  | ((with_reducible refine Exists.intro ?za (Exists.intro ?zb (And.intro ?z1 (And.intro ?z2 ?_)))); (case z1 => exact rfl); (case z2 => first | with_reducible assumption | walk_at "zc" | walk_at "zr"))
  | ((with_reducible refine Exists.intro ?za (And.intro ?z1 ?_)); (case z1 => first | exact rfl | ((with_reducible refine asDs_star (zs := ?zq) ?zh); (case zh => exact rfl))))
  | ((with_reducible refine Or.inl (Exists.intro ?za (Exists.intro ?zb (And.intro ?z1 (And.intro ?z2 ?_))))); (case z1 => exact rfl); (case z2 => exact rfl))
  | with_reducible refine And.intro (fun z => absurd z (by decide)) (fun _ => ?_)
  | with_reducible refine And.intro (fun _ => ?_) (fun z => absurd z (by decide))
  | (refine And.intro (fun hz => ?_) (fun hz => ?_) <;> try simp only [decide_eq_true_eq, decide_eq_false_iff_not, Bool.not_eq_true', Bool.not_eq_false', Int.not_le, Int.not_lt, eqv_int, beq_iff_eq, beq_eq_false_iff_ne, ne_eq, bne_iff_ne] at hz)
  | ((with_reducible refine And.intro ?z1 ?_); (case z1 => walk_at "zl"))
  | fail)
local macro_rules | `(tactic| walk_at "z") => `(tactic| repeat' ((first | walk_at "z1" | walk_at "z2"); try dsimp only [List.set_cons_zero, List.set_cons_succ, S.add, S.nil, S.put]; try simp only [setO_head, del_mk, delO_head, delO_nil]))
local macro_rules | `(tactic| walk_at "z0") => `(tactic| simp only [start, List.map_cons, List.map_nil, List.length_cons, List.length_nil, Nat.reduceAdd, Nat.reduceSub, Nat.zero_add, Nat.sub_self, List.replicate_zero, List.replicate_succ, List.cons_append, List.nil_append, List.append_nil])
local macro_rules | `(tactic| walk_at "zp") => `(tactic| ((with_reducible refine runP_w ?h1 ?h2); (case h1 => rfl)))
local macro_rules | `(tactic| walk_at "zp") => `(tactic| ((with_reducible refine runP_of ?h1 ?h2); (case h1 => rfl)))
local macro_rules | `(tactic| walk_at "zi") => `(tactic| ((with_reducible refine runI_w ?h1 ?h2); (case h1 => rfl)))
local macro_rules | `(tactic| walk_at "zs") => `(tactic| ((first | walk_at "z1" | walk_at "z2"); try dsimp only [List.set_cons_zero, List.set_cons_succ, S.add, S.nil, S.put]; try simp only [setO_head, del_mk, delO_head, delO_nil]))
local macro_rules | `(tactic| walk_at "zr") => `(tactic| ((with_reducible refine oMul_lst ?_ ?_ ?_) <;> first | omega | (simp only [prep_len, List.length_map, List.length_append, List.length_cons, List.length_nil, List.length_reverse, List.length_replicate]; omega)))
local macro_rules | `(tactic| walk_at "zc") => `(tactic| with_reducible exact is_whole_int _)
local macro_rules | `(tactic| walk_at "zc") => `(tactic| with_reducible exact is_within_int _ _ _)
local macro_rules | `(tactic| walk_at "zc") => `(tactic| (with_reducible refine size_in_ok ?_; with_reducible assumption))
local macro_rules | `(tactic| walk_at "zc") => `(tactic| (with_reducible refine lt_size_ok ?_; with_reducible assumption))
local macro_rules | `(tactic| walk_at "zc") => `(tactic| (with_reducible refine require_base_ok ?_; with_reducible assumption))
local macro_rules | `(tactic| walk_at "zc") => `(tactic| (with_reducible refine sign_size_ok ?_; with_reducible assumption))
local macro_rules | `(tactic| walk_at "zc") => `(tactic| ((with_reducible refine require_rows_ok ?_ ?_) <;> omega))
local macro_rules | `(tactic| walk_at "zc") => `(tactic| ((with_reducible refine digits_in_ok ?_ ?_ ?_) <;> omega))
local macro_rules | `(tactic| walk_at "zc") => `(tactic| ((with_reducible refine lt_digits_ok ?_ ?_ ?_) <;> omega))
local macro_rules | `(tactic| walk_at "zc") => `(tactic| ((with_reducible refine number_of_digits_ok ?_ ?_ _) <;> omega))
local macro_rules | `(tactic| walk_at "zc") => `(tactic| ((with_reducible refine many_parts_ok ?_ ?_ ?_ ?_ ?_ ?_) <;> first | with_reducible assumption | omega))
local macro_rules | `(tactic| walk_at "zc") => `(tactic| with_reducible exact lt_signs_ok)
local macro_rules | `(tactic| walk_at "zr") => `(tactic| ((with_reducible refine kIndex_sgT ?_ ?_) <;> first | with_reducible assumption | exact rfl))
local macro_rules | `(tactic| walk_at "zc") => `(tactic| ((with_reducible refine require_letter_ok _ ?_ ?_) <;> first | with_reducible assumption | omega))
local macro_rules | `(tactic| walk_at "zc") => `(tactic| ((with_reducible refine parts_in_ok ?_ ?_ ?_ ?_ ?_ _ ?_ ?_) <;> first | with_reducible assumption | omega))
local macro_rules | `(tactic| walk_at "zc") => `(tactic| ((with_reducible refine lt_parts_ok ?_ ?_ ?_ ?_ ?_ _ ?_ ?_) <;> first | with_reducible assumption | omega))
theorem parts_of_ok {l : D} {q : Int} {m r : Nat} (hq : q ∈ primes) (hm : 1 ≤ m) (hm2 : m ≤ 6) (hr : 1 ≤ r) (hr2 : r ≤ 12) (ks : List Nat) (hl : ks.length ≤ 400) (hk : ∀ k ∈ ks, k < 43) : F_parts_of [fldD l q m, .int r, letD ks] = .ok (partsD (enc q m r ks)) := by
  unfold F_parts_of
  walk_at "zp"
  unfold f_parts_of
  walk_at "z0"
  walk_at "z"
inductive Res where
  | lt (ks : List Nat)
  | rest
  | sign (i : Nat)
  | long
  | fin
/-- what the digits tell -/
def dec (q : Int) (ds : List Int) (ok : List Nat → Bool) : Nat → List Nat → Res
  | 0, _ => .fin
  | n + 1, ks => if numD q ((ds.drop (sz q * ks.length)).take (sz q)) = 0 then (if ok ks = true then .lt ks else .rest)
    else if 43 < numD q ((ds.drop (sz q * ks.length)).take (sz q)) then .sign ks.length
    else if ks.length = 400 then .long
    else dec q ds ok n (ks ++ [(numD q ((ds.drop (sz q * ks.length)).take (sz q)) - 1).toNat])
def progD : Res → D
  | .lt ks => .tup [letD ks, .non]
  | .rest => .tup [.non, K_REST]
  | .sign i => .tup [.non, .tup [K_SIGN, .int i]]
  | .long => .tup [.non, K_LONG]
  | .fin => .tup [.non, K_END]
def lawD : Res → D
  | .lt ks => .tup [.str tx0, letD ks]
  | .rest => .tup [.str tx1, .tup [.str tx5]]
  | .sign i => .tup [.str tx1, .tup [.str tx4, .int i]]
  | .long => .tup [.str tx1, .tup [.str tx3]]
  | .fin => .tup [.str tx1, .tup [.str [101, 110, 100]]]
theorem numD_nonneg {q : Int} (hq : 0 < q) {ds : List Int} (h : ∀ d ∈ ds, 0 ≤ d) : 0 ≤ numD q ds := by
  unfold numD
  have : ∀ (ds : List Int) (a : Int), 0 ≤ a → (∀ d ∈ ds, 0 ≤ d) → 0 ≤ ds.foldl (fun a d => a * q + d) a := by
    intro ds
    induction ds with
    | nil => exact fun a h _ => h
    | cons d ds ih =>
      intro a ha h
      rw [List.foldl_cons]
      refine ih _ ?_ fun x hx => h x (List.mem_cons_of_mem _ hx)
      have := h d List.mem_cons_self
      have := Int.mul_nonneg ha (show 0 ≤ q by omega)
      omega
  exact this ds 0 (by omega) h
theorem truths_int : ∀ zs : List Int, truths (zs.map .int) = some (zs.map (· != 0))
  | [] => rfl
  | z :: zs => by
    show (match truths (zs.map .int) with | some bs => some ((z != 0) :: bs) | none => none) = _
    rw [truths_int zs]
    rfl
theorem bAny_int (zs : List Int) : bAny [.lst (zs.map .int)] = some (.bl (zs.any (· != 0))) := by
  show (match truths (zs.map .int) with | some bs => _ | none => _) = _
  rw [truths_int]
  show some (D.bl ((zs.map (· != 0)).any id)) = _
  rw [List.any_map]
  rfl
theorem cut_sl {α : Type} (xs : List α) {a b : Nat} {i j : Int} (hi : i = (a : Int)) (hj : j = (b : Int)) (h2 : a ≤ b) : cutD xs (some i) (some j) = (xs.drop a).take (b - a) := by
  subst hi hj
  unfold cutD sIx
  dsimp only
  rw [if_neg (by omega), if_neg (by omega)]
  rw [Int.toNat_natCast, Int.toNat_natCast]
  by_cases h : a ≤ xs.length
  · rw [Nat.min_eq_left h]
    by_cases h3 : b ≤ xs.length
    · rw [Nat.min_eq_left h3]
    · rw [Nat.min_eq_right (by omega)]
      rw [List.take_of_length_le (by rw [List.length_drop]; omega), List.take_of_length_le (by rw [List.length_drop]; omega)]
  · rw [Nat.min_eq_right (by omega), List.drop_of_length_le (by omega), List.drop_of_length_le (by omega)]
    simp
theorem cut_from {α : Type} (xs : List α) {a : Nat} {i : Int} (hi : i = (a : Int)) : cutD xs (some i) none = xs.drop a := by
  subst hi
  unfold cutD sIx
  dsimp only
  rw [if_neg (by omega), Int.toNat_natCast]
  by_cases h : a ≤ xs.length
  · rw [Nat.min_eq_left h, List.take_of_length_le (by rw [List.length_drop]; omega)]
  · rw [Nat.min_eq_right (by omega), List.drop_of_length_le (by omega), List.drop_of_length_le (by omega)]
    simp
def sgs (ks : List Nat) : List D := ks.map fun k => .str [sg k]
theorem strsOf_sgs : ∀ ks, strsOf (sgs ks) = some (ks.map fun k => [sg k])
  | [] => rfl
  | k :: ks => by
    show (match strsOf (sgs ks) with | some xs => some ([sg k] :: xs) | none => none) = _
    rw [strsOf_sgs ks]
    rfl
theorem sumLen_sgs : ∀ ks : List Nat, sumLen (ks.map fun k => [sg k]) = ks.length
  | [] => rfl
  | k :: ks => by
    show 1 + sumLen (ks.map fun k => [sg k]) = _
    rw [sumLen_sgs ks, List.length_cons]
    omega
theorem joinN_sgs : ∀ ks : List Nat, joinN [] (ks.map fun k => [sg k]) = ks.map sg
  | [] => rfl
  | [k] => rfl
  | k :: j :: ks => by
    show [sg k] ++ [] ++ joinN [] ((j :: ks).map fun k => [sg k]) = _
    rw [joinN_sgs (j :: ks)]
    rfl
theorem kJoin_sgs {ks : List Nat} (h : ks.length ≤ 1000) : kJoin [] [.lst (sgs ks)] = some (letD ks) := by
  show (match strsOf (sgs ks) with | some ss => (if sumLen ss + ss.length * 0 ≤ LIM then some (D.str (joinN [] ss)) else none) | none => none) = _
  rw [strsOf_sgs]
  dsimp only
  rw [sumLen_sgs, if_pos (by rw [Nat.mul_zero]; unfold LIM; omega), joinN_sgs]
  rfl
theorem idx_sg {t : List Nat} {v : Int} (h : 0 ≤ v) (h2 : v < 43) (ht : t = tx2) : oIdxA (.str t) (.int v) = some (.str [sg v.toNat]) := by
  subst ht
  show (atD tx2 v).map _ = _
  unfold atD
  rw [if_pos h, get_sg v.toNat (by omega)]
  rfl
end K85
end

section
set_option Elab.async false
set_option linter.all false
set_option maxRecDepth 100000
set_option maxHeartbeats 1000000
namespace K85
open Z
local macro_rules | `(tactic| walk_at "z1") => `(tactic| first
  | with_reducible refine wf_seq ?_
  | with_reducible refine wf_ret ?_
  | with_reducible refine wf_retN ?_
  | with_reducible refine wf_set ?_
  | with_reducible refine wf_if ?_
  | with_reducible refine wf_expr ?_
  | with_reducible refine wf_nil ?_
  | with_reducible refine wf_par ?_
  | with_reducible refine wf_put ?_
  | with_reducible refine wf_raise ?_
  | with_reducible refine wf_raiseF ?_
  | with_reducible refine wf_for ?_
  | with_reducible refine wf_brk ?_
  | with_reducible refine wf_cnt ?_
  | ((with_reducible refine wf_frzR (j := ?zj) (xs := ?zx) ?zv ?zg ?_); (case zv => exact rfl); (case zg => first | exact get_head | exact rfl))
  | ((with_reducible refine wf_frzD (x := ?zx) ?zv ?_); (case zv => exact rfl))
  | with_reducible refine wf_asg ?_
  | with_reducible refine wp_K ?_
  | ((with_reducible refine wp_var (w := ?zw) ?zv ?_); (case zv => exact rfl))
  | with_reducible refine wp_op ?_
  | with_reducible refine wp_un ?_
  | with_reducible refine wp_chain ?_
  | with_reducible refine wp_tru ?_
  | with_reducible refine wp_TB ?_
  | with_reducible refine wp_tAnd ?_
  | with_reducible refine wp_tOr ?_
  | with_reducible refine wp_tNot ?_
  | with_reducible refine wp_cAnd ?_
  | with_reducible refine wp_cOr ?_
  | with_reducible refine wp_cNot ?_
  | with_reducible refine wp_cIf ?_
  | with_reducible refine wp_aNil ?_
  | with_reducible refine wp_aCons ?_
  | with_reducible refine wp_aStar ?_
  | with_reducible refine wp_tup ?_
  | with_reducible refine wp_disp ?_
  | with_reducible refine wp_frz ?_
  | with_reducible refine wp_new ?_
  | with_reducible refine wp_done ?_
  | with_reducible refine wp_bi ?_
  | with_reducible refine wp_is ?_
  | with_reducible refine wp_list ?_
  | with_reducible refine wp_pNone ?_
  | with_reducible refine wp_pSome ?_
  | with_reducible refine wp_sl ?_
  | with_reducible refine wp_lSl ?_
  | with_reducible refine wp_rev ?_
  | with_reducible refine wp_lRev ?_
  | with_reducible refine wp_callP_ok ?_
  | with_reducible refine wp_callI ?_
  | with_reducible refine wp_strM ?_
  | with_reducible refine wp_append ?_
  | with_reducible refine wp_extend ?_
  | with_reducible refine wp_iVal ?_
  | with_reducible refine wp_rg1 ?_
  | with_reducible refine wp_rg2 ?_
  | with_reducible refine wp_rg3 ?_
  | with_reducible refine wp_enum ?_
  | with_reducible refine wp_lc ?_
  | with_reducible refine wp_lc2 ?_
  | with_reducible refine wp_fldO ?_
  | with_reducible refine wp_gNm ?_
  | with_reducible refine wp_gFld ?_
  | with_reducible refine wf_fld ?_
  | with_reducible refine wp_make ?_
  | with_reducible refine wp_doneO ?_
  | with_reducible refine wp_gEach ?_
  | with_reducible refine wp_gEach_nil ?_
  | with_reducible refine wp_gAll ?_
  | with_reducible refine wp_gAll_nil ?_
  | with_reducible refine wf_parT ?_
  | with_reducible refine wp_gTp ?_
  | with_reducible refine wp_ok ?_)
local macro_rules | `(tactic| walk_at "zr") => `(tactic| exact rfl)
local macro_rules | `(tactic| walk_at "zr") => `(tactic| ((with_reducible refine oMod_int ?_); first | with_reducible assumption | omega))
local macro_rules | `(tactic| walk_at "zr") => `(tactic| ((with_reducible refine oDiv_int ?_ ?_) <;> first | with_reducible assumption | omega))
local macro_rules | `(tactic| walk_at "zr") => `(tactic| ((with_reducible refine oMul_int ?_); first | with_reducible assumption | omega))
local macro_rules | `(tactic| walk_at "zr") => `(tactic| ((with_reducible refine bDivmod_int ?_ ?_) <;> first | with_reducible assumption | omega))
local macro_rules | `(tactic| walk_at "zr") => `(tactic| with_reducible exact rfl)
local macro_rules | `(tactic| walk_at "zr") => `(tactic| ((with_reducible refine atD_int ?_ ?_) <;> first | with_reducible assumption | omega))
local macro_rules | `(tactic| walk_at "zr") => `(tactic| ((with_reducible refine setD_int ?_ ?_) <;> first | with_reducible assumption | omega))
local macro_rules | `(tactic| walk_at "zr") => `(tactic| with_reducible exact bAll_fun _ _)
local macro_rules | `(tactic| walk_at "zr") => `(tactic| with_reducible exact bAny_fun _ _)
local macro_rules | `(tactic| walk_at "zc") => `(tactic| with_reducible assumption)
local macro_rules | `(tactic| walk_at "zl") => `(tactic| first
  | with_reducible exact rfl
  | with_reducible assumption
  | ((with_reducible refine okR_int ?_ ?_) <;> first | omega | (simp only [List.length_map]; omega))
  | ((with_reducible refine okR2 ?_ ?_ ?_ ?_) <;> first | omega | (simp only [List.length_map]; omega))
  | ((with_reducible refine okR3 ?_ ?_ ?_ ?_ ?_ ?_) <;> first | omega | decide | (simp only [List.length_map]; omega))
  | (simp only [List.length_map, List.length_append, List.length_cons, List.length_nil, List.length_replicate, List.length_reverse, LIM]; omega)
  | exact rfl
  | decide
  | fail)
local macro_rules | `(tactic| walk_at "zr") => `(tactic| with_reducible exact get_head)
local macro_rules | `(tactic| walk_at "zr") => `(tactic| ((with_reducible refine oMul_tup ?_ ?_ ?_) <;> first | omega | decide))
local macro_rules | `(tactic| walk_at "zr") => `(tactic| ((with_reducible refine oAdd_tup ?_); first | omega | (simp only [prep_len, List.length_map, List.length_append, List.length_cons, List.length_nil, List.length_reverse, List.length_replicate]; omega)))
local macro_rules | `(tactic| walk_at "zr") => `(tactic| ((with_reducible refine oAdd_lst ?_); first | omega | (simp only [prep_len, List.length_map, List.length_append, List.length_cons, List.length_nil, List.length_reverse, List.length_replicate]; omega)))
local macro_rules | `(tactic| walk_at "z2") => `(tactic| first
  | ((with_reducible refine Exists.intro ?za (Exists.intro ?zb (Exists.intro ?zc (Exists.intro ?zd (Exists.intro ?ze (And.intro ?z1 (And.intro ?z2 (And.intro ?z3 (And.intro ?z4 (And.intro ?z5 ?_)))))))))); (case z1 => exact rfl); (case z2 => exact rfl); (case z3 => exact rfl); (case z4 => exact rfl); (case z5 => walk_at "zr"))
  | ((with_reducible refine Exists.intro ?za (Exists.intro ?zb (Exists.intro ?zc (Exists.intro ?zd (And.intro ?z1 (And.intro ?z2 (And.intro ?z3 ?_))))))); (case z1 => exact rfl); (case z2 => walk_at "zr"); (case z3 => walk_at "zr"))
  | ((with_reducible refine Exists.intro ?za (Exists.intro ?zb (Exists.intro ?zc (And.intro ?z1 (And.intro ?z2 (And.intro ?z3 ?_)))))); (case z1 => exact rfl); (case z2 => exact rfl); (case z3 => walk_at "zr"))
  | ((with_reducible refine Exists.intro ?za (Exists.intro ?zb (And.intro ?z1 (And.intro ?z2 ?_)))); (case z1 => exact rfl); (case z2 => first | with_reducible assumption | walk_at "zc" | walk_at "zr"))
  | ((with_reducible refine Exists.intro ?za (And.intro ?z1 ?_)); (case z1 => first | exact rfl | ((with_reducible refine asDs_star (zs := ?zq) ?zh); (case zh => exact rfl))))
  | ((with_reducible refine Or.inl (Exists.intro ?za (Exists.intro ?zb (And.intro ?z1 (And.intro ?z2 ?_))))); (case z1 => exact rfl); (case z2 => exact rfl))
  | with_reducible refine And.intro (fun z => absurd z (by decide)) (fun _ => ?_)
  | with_reducible refine And.intro (fun _ => ?_) (fun z => absurd z (by decide))
  | (refine And.intro (fun hz => ?_) (fun hz => ?_) <;> try simp only [decide_eq_true_eq, decide_eq_false_iff_not, Bool.not_eq_true', Bool.not_eq_false', Int.not_le, Int.not_lt, eqv_int, beq_iff_eq, beq_eq_false_iff_ne, ne_eq, bne_iff_ne] at hz)
  | ((with_reducible refine And.intro ?z1 ?_); (case z1 => walk_at "zl"))
  | fail)
local macro_rules | `(tactic| walk_at "z") => `(tactic| repeat' ((first | walk_at "z1" | walk_at "z2"); try dsimp only [List.set_cons_zero, List.set_cons_succ, S.add, S.nil, S.put]; try simp only [setO_head, del_mk, delO_head, delO_nil]))
local macro_rules | `(tactic| walk_at "z0") => `(tactic| simp only [start, List.map_cons, List.map_nil, List.length_cons, List.length_nil, Nat.reduceAdd, Nat.reduceSub, Nat.zero_add, Nat.sub_self, List.replicate_zero, List.replicate_succ, List.cons_append, List.nil_append, List.append_nil])
local macro_rules | `(tactic| walk_at "zp") => `(tactic| ((with_reducible refine runP_w ?h1 ?h2); (case h1 => rfl)))
local macro_rules | `(tactic| walk_at "zp") => `(tactic| ((with_reducible refine runP_of ?h1 ?h2); (case h1 => rfl)))
local macro_rules | `(tactic| walk_at "zi") => `(tactic| ((with_reducible refine runI_w ?h1 ?h2); (case h1 => rfl)))
local macro_rules | `(tactic| walk_at "zs") => `(tactic| ((first | walk_at "z1" | walk_at "z2"); try dsimp only [List.set_cons_zero, List.set_cons_succ, S.add, S.nil, S.put]; try simp only [setO_head, del_mk, delO_head, delO_nil]))
local macro_rules | `(tactic| walk_at "zr") => `(tactic| ((with_reducible refine oMul_lst ?_ ?_ ?_) <;> first | omega | (simp only [prep_len, List.length_map, List.length_append, List.length_cons, List.length_nil, List.length_reverse, List.length_replicate]; omega)))
local macro_rules | `(tactic| walk_at "zc") => `(tactic| with_reducible exact is_whole_int _)
local macro_rules | `(tactic| walk_at "zc") => `(tactic| with_reducible exact is_within_int _ _ _)
local macro_rules | `(tactic| walk_at "zc") => `(tactic| (with_reducible refine size_in_ok ?_; with_reducible assumption))
local macro_rules | `(tactic| walk_at "zc") => `(tactic| (with_reducible refine lt_size_ok ?_; with_reducible assumption))
local macro_rules | `(tactic| walk_at "zc") => `(tactic| (with_reducible refine require_base_ok ?_; with_reducible assumption))
local macro_rules | `(tactic| walk_at "zc") => `(tactic| (with_reducible refine sign_size_ok ?_; with_reducible assumption))
local macro_rules | `(tactic| walk_at "zc") => `(tactic| ((with_reducible refine require_rows_ok ?_ ?_) <;> omega))
local macro_rules | `(tactic| walk_at "zc") => `(tactic| ((with_reducible refine digits_in_ok ?_ ?_ ?_) <;> omega))
local macro_rules | `(tactic| walk_at "zc") => `(tactic| ((with_reducible refine lt_digits_ok ?_ ?_ ?_) <;> omega))
local macro_rules | `(tactic| walk_at "zc") => `(tactic| ((with_reducible refine number_of_digits_ok ?_ ?_ _) <;> omega))
local macro_rules | `(tactic| walk_at "zc") => `(tactic| ((with_reducible refine many_parts_ok ?_ ?_ ?_ ?_ ?_ ?_) <;> first | with_reducible assumption | omega))
local macro_rules | `(tactic| walk_at "zc") => `(tactic| with_reducible exact lt_signs_ok)
local macro_rules | `(tactic| walk_at "zr") => `(tactic| ((with_reducible refine kIndex_sgT ?_ ?_) <;> first | with_reducible assumption | exact rfl))
local macro_rules | `(tactic| walk_at "zc") => `(tactic| ((with_reducible refine require_letter_ok _ ?_ ?_) <;> first | with_reducible assumption | omega))
local macro_rules | `(tactic| walk_at "zc") => `(tactic| ((with_reducible refine parts_in_ok ?_ ?_ ?_ ?_ ?_ _ ?_ ?_) <;> first | with_reducible assumption | omega))
local macro_rules | `(tactic| walk_at "zc") => `(tactic| ((with_reducible refine lt_parts_ok ?_ ?_ ?_ ?_ ?_ _ ?_ ?_) <;> first | with_reducible assumption | omega))
local macro_rules | `(tactic| walk_at "zc") => `(tactic| ((with_reducible refine parts_of_ok ?_ ?_ ?_ ?_ ?_ _ ?_ ?_) <;> first | with_reducible assumption | omega))
local macro_rules | `(tactic| walk_at "zr") => `(tactic| ((with_reducible refine idx_sg ?_ ?_ ?_) <;> first | omega | exact rfl))
local macro_rules | `(tactic| walk_at "zr") => `(tactic| with_reducible assumption)
local macro_rules | `(tactic| walk_at "zc") => `(tactic| (with_reducible refine joined_ok _ ?_; omega))
def digsOf (ps : List (List (List Int))) : List Int := (ps.map List.flatten).flatten
def Pts (q : Int) (m r : Nat) (ps : List (List (List Int))) : Prop := ∀ p ∈ ps, Pt1 q m r p
theorem flat_len {α : Type} {n : Nat} : ∀ {xs : List (List α)}, (∀ x ∈ xs, x.length = n) → xs.flatten.length = xs.length * n
  | [], _ => by simp
  | x :: xs, h => by
    rw [List.flatten_cons, List.length_append, flat_len fun y hy => h y (List.mem_cons_of_mem _ hy), h x List.mem_cons_self, List.length_cons, Nat.succ_mul]
    omega
theorem pt_len {q : Int} {m r : Nat} {p : List (List Int)} (h : Pt1 q m r p) : p.flatten.length = r * m := by
  rw [flat_len fun w hw => (h.2 w hw).1, h.1]
theorem digsOf_len {q : Int} {m r : Nat} {ps : List (List (List Int))} (h : Pts q m r ps) : (digsOf ps).length = ps.length * (r * m) := by
  unfold digsOf
  rw [flat_len (n := r * m) fun x hx => by
    obtain ⟨p, hp, rfl⟩ := List.mem_map.mp hx
    exact pt_len (h p hp), List.length_map]
def okP (q : Int) (m r : Nat) (ps : List (List (List Int))) (ks : List Nat) : Bool := !((digsOf ps).drop (sz q * ks.length)).any (· != 0) && decide (ps.length = (sz q * (ks.length + 1) + r * m - 1) / (r * m))
theorem sgs_snoc (ks : List Nat) (k : Nat) : sgs (ks ++ [k]) = sgs ks ++ [.str [sg k]] := by simp [sgs]
def wordInts (w : D) : List D := match w with
  | .tup ds => ds
  | _ => []
def partInts (x : D) : List D := match x with
  | .tup ws => (ws.map wordInts).flatten
  | _ => []
theorem partInts_part (p : List (List Int)) : partInts (partD p) = p.flatten.map D.int := by
  show ((p.map wordD).map wordInts).flatten = _
  rw [List.map_map, List.map_flatten]
  rfl
theorem partInts_parts (ps : List (List (List Int))) : ((ps.map partD).map partInts).flatten = (digsOf ps).map D.int := by
  unfold digsOf
  rw [List.map_map, List.map_flatten, List.map_map]
  congr 1
  exact List.map_congr_left fun p _ => partInts_part p
theorem letter_or_reason_ok {l : D} {q : Int} {m r : Nat} (hq : q ∈ primes) (hm : 1 ≤ m) (hm2 : m ≤ 6) (hr : 1 ≤ r) (hr2 : r ≤ 12) (ps : List (List (List Int))) (hps : Pts q m r ps) (hpl : ps.length ≤ 3000) (hnn : ∀ d ∈ digsOf ps, 0 ≤ d) : F_letter_or_reason [fldD l q m, .int r, partsD ps] = .ok (progD (dec q (digsOf ps) (okP q m r ps) ((digsOf ps).length / sz q) [])) := by
  have hqb := prime_bd hq
  have hsz := sz_bd q
  have h1 : 1 ≤ r * m := Nat.mul_pos hr hm
  have h2 : r * m ≤ 12 * 6 := Nat.mul_le_mul hr2 hm2
  have hdl := digsOf_len hps
  have hdl2 : ps.length * (r * m) ≤ 3000 * (12 * 6) := Nat.mul_le_mul hpl h2
  unfold F_letter_or_reason
  walk_at "zp"
  unfold f_letter_or_reason
  walk_at "z0"
  walk_at "z"
  refine wp_mono (wp_lc2Map partInts (fun x hx => ?_)) (fun zs s2 hz => ?_) fun _ _ h => h
  · obtain ⟨p, hp, rfl⟩ := List.mem_map.mp hx
    have hpl := pt_len (hps p hp)
    walk_at "z"
    refine wp_lcMap (fun x => x) (fun x hx => ?_) ?_
    · walk_at "z"
    · rw [List.map_id', partInts_part]
      exact ⟨rfl, rfl⟩
  · obtain ⟨rfl, rfl⟩ := hz
    rw [partInts_parts]
    generalize hR : dec q (digsOf ps) (okP q m r ps) ((digsOf ps).length / sz q) [] = R0
    have hokP : ∀ ks, okP q m r ps ks = (!((digsOf ps).drop (sz q * ks.length)).any (· != 0) && decide (ps.length = (sz q * (ks.length + 1) + r * m - 1) / (r * m))) := fun _ => rfl
    generalize okP q m r ps = okp at *
    generalize hN : (digsOf ps).length / sz q = N at *
    have hN2 : ∀ k, k < N ↔ sz q * (k + 1) ≤ (digsOf ps).length := by
      intro k
      rw [← hN, Nat.mul_comm]
      exact Nat.le_div_iff_mul_le (by omega)
    generalize digsOf ps = ds at *
    walk_at "z"
    refine wf_while (fun n e s => ∃ (ks : List Nat) (w w' : Option W), n + ks.length = N ∧ ks.length ≤ 400 ∧ (∀ k ∈ ks, k < 43) ∧ dec q ds okp n ks = R0 ∧ e = [some (W.d (fldD l q ↑m)), some (W.d (D.int ↑r)), some (W.d (partsD ps)), some (W.d (D.int ↑(sz q))), some (W.d (D.lst (ds.map .int))), some (.ref 0), w, none, none, w'] ∧ s = ⟨1, [(0, .lst (sgs ks))]⟩) ⟨N, ?_, [], none, none, rfl, by simp, by simp, hR, rfl, rfl⟩ (fun n e s h => ?_)
    · have : N ≤ ds.length := by rw [← hN]; exact Nat.div_le_self _ _
      unfold WFUEL
      omega
    · obtain ⟨ks, w, w', hn, hk4, hk43, hdec, rfl, rfl⟩ := h
      have hsl : (sgs ks).length = ks.length := by simp [sgs]
      have hmul : sz q * (ks.length + 1) = sz q * ks.length + sz q := Nat.mul_succ _ _
      have hi1 : (sz q : Int) * ((sgs ks).length : Int) = ((sz q * ks.length : Nat) : Int) := by rw [hsl]; simp
      have hi2 : (sz q : Int) * (((sgs ks).length : Int) + 1) = ((sz q * (ks.length + 1) : Nat) : Int) := by rw [hsl]; simp
      have hnum : F_number_of_digits [.int q, .lst (cutD (ds.map .int) (some ((sz q : Int) * ((sgs ks).length : Int))) (some ((sz q : Int) * (((sgs ks).length : Int) + 1))))] = .ok (.int (numD q ((ds.drop (sz q * ks.length)).take (sz q)))) := by
        rw [cut_sl _ hi1 hi2 (by omega), show sz q * (ks.length + 1) - sz q * ks.length = sz q by omega, ← List.map_drop, ← List.map_take, number_of_digits_ok (by omega) (by omega)]
      have hany : bAny [.lst (cutD (ds.map .int) (some ((sz q : Int) * ((sgs ks).length : Int))) none)] = some (.bl ((ds.drop (sz q * ks.length)).any (· != 0))) := by
        rw [cut_from _ hi1, ← List.map_drop, bAny_int]
      have hmp : F_many_parts [fldD l q m, .int r, .int ((sgs ks).length : Nat)] = .ok (.int ((sz q * (ks.length + 1) + r * m - 1) / (r * m) : Nat)) := by
        rw [hsl]
        exact many_parts_ok hq hm hm2 hr hr2 (by omega)
      have hv := numD_nonneg (q := q) (by omega) (ds := (ds.drop (sz q * ks.length)).take (sz q)) fun d hd => hnn d (List.mem_of_mem_drop (List.mem_of_mem_take hd))
      have hjn := kJoin_sgs (ks := ks) (by omega)
      have hdn : ∀ n', n = n' + 1 → _ := fun n' hn' => (by rw [hn', dec] at hdec; exact hdec)
      generalize hvv : numD q ((ds.drop (sz q * ks.length)).take (sz q)) = v at *
      have hpos : (sz q : Int) * (((sgs ks).length : Int) + 1) ≤ ((ds.map D.int).length : Int) → ∃ n', n = n' + 1 := by
        intro hz
        rw [hi2, List.length_map] at hz
        have := (hN2 ks.length).mpr (by omega)
        exact ⟨n - 1, by omega⟩
      walk_at "z"
      · rename_i z0 z1 z2 z3
        obtain ⟨n', hn'⟩ := hpos z0
        have hd := hdn n' hn'
        rw [List.length_map] at z3
        rw [if_pos z1, if_pos (by rw [hokP, z2]; simp only [Bool.not_false, Bool.true_and, decide_eq_true_eq]; omega)] at hd
        rw [← hd]
        rfl
      · rename_i z0 z1 z2 z3
        obtain ⟨n', hn'⟩ := hpos z0
        have hd := hdn n' hn'
        rw [List.length_map] at z3
        rw [if_pos z1, if_neg (by rw [hokP, z2]; simp only [Bool.not_false, Bool.true_and, decide_eq_true_eq]; omega)] at hd
        rw [← hd]
        rfl
      · rename_i z0 z1 z2 z3
        obtain ⟨n', hn'⟩ := hpos z0
        have hd := hdn n' hn'
        rw [if_pos z1, if_neg (by rw [hokP, z2]; simp)] at hd
        rw [← hd]
        rfl
      · rename_i z0 z1 z2
        obtain ⟨n', hn'⟩ := hpos z0
        have hd := hdn n' hn'
        have z2 : 43 < v := z2
        rw [if_neg z1, if_pos z2] at hd
        rw [← hd, hsl]
        rfl
      · rename_i z0 z1 z2 z3
        obtain ⟨n', hn'⟩ := hpos z0
        have hd := hdn n' hn'
        have z2 : v ≤ 43 := z2
        rw [if_neg z1, if_neg (by omega), if_pos (by omega)] at hd
        rw [← hd]
        rfl
      · rename_i z0 z1 z2 z3
        obtain ⟨n', hn'⟩ := hpos z0
        have hd := hdn n' hn'
        have z2 : v ≤ 43 := z2
        rw [if_neg z1, if_neg (by omega), if_neg (by omega)] at hd
        refine ⟨_, _, _, rfl, rfl, idx_sg (by omega) (by omega) rfl, _, _, rfl, get_head, by rw [hsl]; unfold LIM; omega, n', by omega, ks ++ [(v - 1).toNat], _, _, by rw [List.length_append, List.length_singleton]; omega, by rw [List.length_append, List.length_singleton]; omega, ?_, hd, rfl, by rw [sgs_snoc]⟩
        intro k hk
        rw [List.mem_append, List.mem_singleton] at hk
        rcases hk with hk | rfl
        · exact hk43 k hk
        · omega
      · rename_i z0
        have : n = 0 := by
          rcases Nat.eq_zero_or_pos n with h | h
          · exact h
          · have := (hN2 ks.length).mp (by omega)
            rw [hi2, List.length_map] at z0
            omega
        rw [this, dec] at hdec
        rw [← hdec]
        rfl
end K85
end

section
set_option Elab.async false
set_option linter.all false
set_option maxRecDepth 100000
set_option maxHeartbeats 1000000
namespace K85
open Z
local macro_rules | `(tactic| walk_at "z1") => `(tactic| first
  | with_reducible refine wf_seq ?_
  | with_reducible refine wf_ret ?_
  | with_reducible refine wf_retN ?_
  | with_reducible refine wf_set ?_
  | with_reducible refine wf_if ?_
  | with_reducible refine wf_expr ?_
  | with_reducible refine wf_nil ?_
  | with_reducible refine wf_par ?_
  | with_reducible refine wf_put ?_
  | with_reducible refine wf_raise ?_
  | with_reducible refine wf_raiseF ?_
  | with_reducible refine wf_for ?_
  | with_reducible refine wf_brk ?_
  | with_reducible refine wf_cnt ?_
  | ((with_reducible refine wf_frzR (j := ?zj) (xs := ?zx) ?zv ?zg ?_); (case zv => exact rfl); (case zg => first | exact get_head | exact rfl))
  | ((with_reducible refine wf_frzD (x := ?zx) ?zv ?_); (case zv => exact rfl))
  | with_reducible refine wf_asg ?_
  | with_reducible refine wp_K ?_
  | ((with_reducible refine wp_var (w := ?zw) ?zv ?_); (case zv => exact rfl))
  | with_reducible refine wp_op ?_
  | with_reducible refine wp_un ?_
  | with_reducible refine wp_chain ?_
  | with_reducible refine wp_tru ?_
  | with_reducible refine wp_TB ?_
  | with_reducible refine wp_tAnd ?_
  | with_reducible refine wp_tOr ?_
  | with_reducible refine wp_tNot ?_
  | with_reducible refine wp_cAnd ?_
  | with_reducible refine wp_cOr ?_
  | with_reducible refine wp_cNot ?_
  | with_reducible refine wp_cIf ?_
  | with_reducible refine wp_aNil ?_
  | with_reducible refine wp_aCons ?_
  | with_reducible refine wp_aStar ?_
  | with_reducible refine wp_tup ?_
  | with_reducible refine wp_disp ?_
  | with_reducible refine wp_frz ?_
  | with_reducible refine wp_new ?_
  | with_reducible refine wp_done ?_
  | with_reducible refine wp_bi ?_
  | with_reducible refine wp_is ?_
  | with_reducible refine wp_list ?_
  | with_reducible refine wp_pNone ?_
  | with_reducible refine wp_pSome ?_
  | with_reducible refine wp_sl ?_
  | with_reducible refine wp_lSl ?_
  | with_reducible refine wp_rev ?_
  | with_reducible refine wp_lRev ?_
  | with_reducible refine wp_callP_ok ?_
  | with_reducible refine wp_callI ?_
  | with_reducible refine wp_strM ?_
  | with_reducible refine wp_append ?_
  | with_reducible refine wp_extend ?_
  | with_reducible refine wp_iVal ?_
  | with_reducible refine wp_rg1 ?_
  | with_reducible refine wp_rg2 ?_
  | with_reducible refine wp_rg3 ?_
  | with_reducible refine wp_enum ?_
  | with_reducible refine wp_lc ?_
  | with_reducible refine wp_lc2 ?_
  | with_reducible refine wp_fldO ?_
  | with_reducible refine wp_gNm ?_
  | with_reducible refine wp_gFld ?_
  | with_reducible refine wf_fld ?_
  | with_reducible refine wp_make ?_
  | with_reducible refine wp_doneO ?_
  | with_reducible refine wp_gEach ?_
  | with_reducible refine wp_gEach_nil ?_
  | with_reducible refine wp_gAll ?_
  | with_reducible refine wp_gAll_nil ?_
  | with_reducible refine wf_parT ?_
  | with_reducible refine wp_gTp ?_
  | with_reducible refine wp_ok ?_)
local macro_rules | `(tactic| walk_at "zr") => `(tactic| exact rfl)
local macro_rules | `(tactic| walk_at "zr") => `(tactic| ((with_reducible refine oMod_int ?_); first | with_reducible assumption | omega))
local macro_rules | `(tactic| walk_at "zr") => `(tactic| ((with_reducible refine oDiv_int ?_ ?_) <;> first | with_reducible assumption | omega))
local macro_rules | `(tactic| walk_at "zr") => `(tactic| ((with_reducible refine oMul_int ?_); first | with_reducible assumption | omega))
local macro_rules | `(tactic| walk_at "zr") => `(tactic| ((with_reducible refine bDivmod_int ?_ ?_) <;> first | with_reducible assumption | omega))
local macro_rules | `(tactic| walk_at "zr") => `(tactic| with_reducible exact rfl)
local macro_rules | `(tactic| walk_at "zr") => `(tactic| ((with_reducible refine atD_int ?_ ?_) <;> first | with_reducible assumption | omega))
local macro_rules | `(tactic| walk_at "zr") => `(tactic| ((with_reducible refine setD_int ?_ ?_) <;> first | with_reducible assumption | omega))
local macro_rules | `(tactic| walk_at "zr") => `(tactic| with_reducible exact bAll_fun _ _)
local macro_rules | `(tactic| walk_at "zr") => `(tactic| with_reducible exact bAny_fun _ _)
local macro_rules | `(tactic| walk_at "zc") => `(tactic| with_reducible assumption)
local macro_rules | `(tactic| walk_at "zl") => `(tactic| first
  | with_reducible exact rfl
  | with_reducible assumption
  | ((with_reducible refine okR_int ?_ ?_) <;> first | omega | (simp only [List.length_map]; omega))
  | ((with_reducible refine okR2 ?_ ?_ ?_ ?_) <;> first | omega | (simp only [List.length_map]; omega))
  | ((with_reducible refine okR3 ?_ ?_ ?_ ?_ ?_ ?_) <;> first | omega | decide | (simp only [List.length_map]; omega))
  | (simp only [List.length_map, List.length_append, List.length_cons, List.length_nil, List.length_replicate, List.length_reverse, LIM]; omega)
  | exact rfl
  | decide
  | fail)
local macro_rules | `(tactic| walk_at "zr") => `(tactic| with_reducible exact get_head)
local macro_rules | `(tactic| walk_at "zr") => `(tactic| ((with_reducible refine oMul_tup ?_ ?_ ?_) <;> first | omega | decide))
local macro_rules | `(tactic| walk_at "zr") => `(tactic| ((with_reducible refine oAdd_tup ?_); first | omega | (simp only [prep_len, List.length_map, List.length_append, List.length_cons, List.length_nil, List.length_reverse, List.length_replicate]; omega)))
local macro_rules | `(tactic| walk_at "zr") => `(tactic| ((with_reducible refine oAdd_lst ?_); first | omega | (simp only [prep_len, List.length_map, List.length_append, List.length_cons, List.length_nil, List.length_reverse, List.length_replicate]; omega)))
local macro_rules | `(tactic| walk_at "z2") => `(tactic| first
  | ((with_reducible refine Exists.intro ?za (Exists.intro ?zb (Exists.intro ?zc (Exists.intro ?zd (Exists.intro ?ze (And.intro ?z1 (And.intro ?z2 (And.intro ?z3 (And.intro ?z4 (And.intro ?z5 ?_)))))))))); (case z1 => exact rfl); (case z2 => exact rfl); (case z3 => exact rfl); (case z4 => exact rfl); (case z5 => walk_at "zr"))
  | ((with_reducible refine Exists.intro ?za (Exists.intro ?zb (Exists.intro ?zc (Exists.intro ?zd (And.intro ?z1 (And.intro ?z2 (And.intro ?z3 ?_))))))); (case z1 => exact rfl); (case z2 => walk_at "zr"); (case z3 => walk_at "zr"))
  | ((with_reducible refine Exists.intro ?za (Exists.intro ?zb (Exists.intro ?zc (And.intro ?z1 (And.intro ?z2 (And.intro ?z3 ?_)))))); (case z1 => exact rfl); (case z2 => exact rfl); (case z3 => walk_at "zr"))
  | ((with_reducible refine Exists.intro ?za (Exists.intro ?zb (And.intro ?z1 (And.intro ?z2 ?_)))); (case z1 => exact rfl); (case z2 => first | with_reducible assumption | walk_at "zc" | walk_at "zr"))
  | ((with_reducible refine Exists.intro ?za (And.intro ?z1 ?_)); (case z1 => first | exact rfl | ((with_reducible refine asDs_star (zs := ?zq) ?zh); (case zh => exact rfl))))
  | ((with_reducible refine Or.inl (Exists.intro ?za (Exists.intro ?zb (And.intro ?z1 (And.intro ?z2 ?_))))); (case z1 => exact rfl); (case z2 => exact rfl))
  | with_reducible refine And.intro (fun z => absurd z (by decide)) (fun _ => ?_)
  | with_reducible refine And.intro (fun _ => ?_) (fun z => absurd z (by decide))
  | (refine And.intro (fun hz => ?_) (fun hz => ?_) <;> try simp only [decide_eq_true_eq, decide_eq_false_iff_not, Bool.not_eq_true', Bool.not_eq_false', Int.not_le, Int.not_lt, eqv_int, beq_iff_eq, beq_eq_false_iff_ne, ne_eq, bne_iff_ne] at hz)
  | ((with_reducible refine And.intro ?z1 ?_); (case z1 => walk_at "zl"))
  | fail)
local macro_rules | `(tactic| walk_at "z") => `(tactic| repeat' ((first | walk_at "z1" | walk_at "z2"); try dsimp only [List.set_cons_zero, List.set_cons_succ, S.add, S.nil, S.put]; try simp only [setO_head, del_mk, delO_head, delO_nil]))
local macro_rules | `(tactic| walk_at "z0") => `(tactic| simp only [start, List.map_cons, List.map_nil, List.length_cons, List.length_nil, Nat.reduceAdd, Nat.reduceSub, Nat.zero_add, Nat.sub_self, List.replicate_zero, List.replicate_succ, List.cons_append, List.nil_append, List.append_nil])
local macro_rules | `(tactic| walk_at "zp") => `(tactic| ((with_reducible refine runP_w ?h1 ?h2); (case h1 => rfl)))
local macro_rules | `(tactic| walk_at "zp") => `(tactic| ((with_reducible refine runP_of ?h1 ?h2); (case h1 => rfl)))
local macro_rules | `(tactic| walk_at "zi") => `(tactic| ((with_reducible refine runI_w ?h1 ?h2); (case h1 => rfl)))
local macro_rules | `(tactic| walk_at "zs") => `(tactic| ((first | walk_at "z1" | walk_at "z2"); try dsimp only [List.set_cons_zero, List.set_cons_succ, S.add, S.nil, S.put]; try simp only [setO_head, del_mk, delO_head, delO_nil]))
local macro_rules | `(tactic| walk_at "zr") => `(tactic| ((with_reducible refine oMul_lst ?_ ?_ ?_) <;> first | omega | (simp only [prep_len, List.length_map, List.length_append, List.length_cons, List.length_nil, List.length_reverse, List.length_replicate]; omega)))
local macro_rules | `(tactic| walk_at "zc") => `(tactic| with_reducible exact is_whole_int _)
local macro_rules | `(tactic| walk_at "zc") => `(tactic| with_reducible exact is_within_int _ _ _)
local macro_rules | `(tactic| walk_at "zc") => `(tactic| (with_reducible refine size_in_ok ?_; with_reducible assumption))
local macro_rules | `(tactic| walk_at "zc") => `(tactic| (with_reducible refine lt_size_ok ?_; with_reducible assumption))
local macro_rules | `(tactic| walk_at "zc") => `(tactic| (with_reducible refine require_base_ok ?_; with_reducible assumption))
local macro_rules | `(tactic| walk_at "zc") => `(tactic| (with_reducible refine sign_size_ok ?_; with_reducible assumption))
local macro_rules | `(tactic| walk_at "zc") => `(tactic| ((with_reducible refine require_rows_ok ?_ ?_) <;> omega))
local macro_rules | `(tactic| walk_at "zc") => `(tactic| ((with_reducible refine digits_in_ok ?_ ?_ ?_) <;> omega))
local macro_rules | `(tactic| walk_at "zc") => `(tactic| ((with_reducible refine lt_digits_ok ?_ ?_ ?_) <;> omega))
local macro_rules | `(tactic| walk_at "zc") => `(tactic| ((with_reducible refine number_of_digits_ok ?_ ?_ _) <;> omega))
local macro_rules | `(tactic| walk_at "zc") => `(tactic| ((with_reducible refine many_parts_ok ?_ ?_ ?_ ?_ ?_ ?_) <;> first | with_reducible assumption | omega))
local macro_rules | `(tactic| walk_at "zc") => `(tactic| with_reducible exact lt_signs_ok)
local macro_rules | `(tactic| walk_at "zr") => `(tactic| ((with_reducible refine kIndex_sgT ?_ ?_) <;> first | with_reducible assumption | exact rfl))
local macro_rules | `(tactic| walk_at "zc") => `(tactic| ((with_reducible refine require_letter_ok _ ?_ ?_) <;> first | with_reducible assumption | omega))
local macro_rules | `(tactic| walk_at "zc") => `(tactic| ((with_reducible refine parts_in_ok ?_ ?_ ?_ ?_ ?_ _ ?_ ?_) <;> first | with_reducible assumption | omega))
local macro_rules | `(tactic| walk_at "zc") => `(tactic| ((with_reducible refine lt_parts_ok ?_ ?_ ?_ ?_ ?_ _ ?_ ?_) <;> first | with_reducible assumption | omega))
local macro_rules | `(tactic| walk_at "zc") => `(tactic| ((with_reducible refine parts_of_ok ?_ ?_ ?_ ?_ ?_ _ ?_ ?_) <;> first | with_reducible assumption | omega))
local macro_rules | `(tactic| walk_at "zr") => `(tactic| ((with_reducible refine idx_sg ?_ ?_ ?_) <;> first | omega | exact rfl))
local macro_rules | `(tactic| walk_at "zr") => `(tactic| with_reducible assumption)
local macro_rules | `(tactic| walk_at "zc") => `(tactic| (with_reducible refine joined_ok _ ?_; omega))
/-- letter_of's end -/
def excR : Res → R D
  | .lt ks => .ok (letD ks)
  | .rest => .exc ⟨5, K_REST⟩
  | .sign i => .exc ⟨5, .tup [K_SIGN, .int i]⟩
  | .long => .exc ⟨5, K_LONG⟩
  | .fin => .exc ⟨5, K_END⟩
def resP (q : Int) (m r : Nat) (ps : List (List (List Int))) : Res := dec q (digsOf ps) (okP q m r ps) ((digsOf ps).length / sz q) []
theorem pts_nn {q : Int} {m r : Nat} {ps : List (List (List Int))} (h : Pts q m r ps) : ∀ d ∈ digsOf ps, 0 ≤ d ∧ d < q := by
  intro d hd
  unfold digsOf at hd
  obtain ⟨x, hx, hd⟩ := List.mem_flatten.mp hd
  obtain ⟨p, hp, rfl⟩ := List.mem_map.mp hx
  obtain ⟨w, hw, hd⟩ := List.mem_flatten.mp hd
  exact ((h p hp).2 w hw).2 d hd
theorem letter_of_ok {l : D} {q : Int} {m r : Nat} (hq : q ∈ primes) (hm : 1 ≤ m) (hm2 : m ≤ 6) (hr : 1 ≤ r) (hr2 : r ≤ 12) (ps : List (List (List Int))) (hps : Pts q m r ps) (hpl : ps.length ≤ 3000) : F_letter_of [fldD l q m, .int r, partsD ps] = excR (resP q m r ps) := by
  have hlr := letter_or_reason_ok (l := l) hq hm hm2 hr hr2 ps hps hpl fun d hd => (pts_nn hps d hd).1
  rw [show dec q (digsOf ps) (okP q m r ps) ((digsOf ps).length / sz q) [] = resP q m r ps from rfl] at hlr
  generalize resP q m r ps = R0 at *
  refine wR_eq ?_
  unfold F_letter_of
  walk_at "zp"
  unfold f_letter_of
  walk_at "z0"
  walk_at "z"
  · exfalso
    simp_all
    omega
  · refine wp_lcMap (fun x => .bl (isT x)) (fun x hx => ?_) ?_
    · obtain ⟨p, hp, rfl⟩ := List.mem_map.mp hx
      have := are_words_ok (l := l) hm2 hr2 p (hps p hp)
      walk_at "z"
    · walk_at "z"
      · rename_i z
        rw [lit_map _ _ fun _ _ => rfl] at z
        cases z
      · cases R0 <;> walk_at "z" <;> first | rfl | exact ⟨_, rfl, rfl⟩
theorem law_read_ok {l : D} {q : Int} {m r : Nat} (hq : q ∈ primes) (hm : 1 ≤ m) (hm2 : m ≤ 6) (hr : 1 ≤ r) (hr2 : r ≤ 12) (ps : List (List (List Int))) (hps : Pts q m r ps) (hpl : ps.length ≤ 3000) : F__law_read [fldD l q m, .int r, partsD ps] = .ok (lawD (resP q m r ps)) := by
  have hlo := letter_of_ok (l := l) hq hm hm2 hr hr2 ps hps hpl
  unfold F__law_read
  walk_at "zp"
  unfold f__law_read
  walk_at "z0"
  refine wf_tryAs ?_
  iterate 5 (walk_at "zs")
  refine wp_callP ?_
  walk_at "z"
  rw [hlo]
  generalize resP q m r ps = R0 at *
  cases R0
  · refine ⟨rfl, ?_⟩
    walk_at "z"
    rfl
  all_goals
    refine ⟨rfl, .inl ⟨rfl, ?_⟩⟩
    walk_at "z"
    rfl
theorem intsOf_int : ∀ zs : List Int, intsOf (zs.map .int) = some zs
  | [] => rfl
  | z :: zs => by
    show (match intsOf (zs.map .int) with | some ns => some (z :: ns) | none => none) = _
    rw [intsOf_int zs]
theorem maxI_zero : ∀ {zs : List Int}, zs ≠ [] → (∀ z ∈ zs, 0 ≤ z) → ∃ mx, maxI zs = some mx ∧ 0 ≤ mx ∧ (decide (mx = 0) = !zs.any (· != 0))
  | [], h, _ => absurd rfl h
  | [n], _, h => by
    have := h n List.mem_cons_self
    refine ⟨n, rfl, this, ?_⟩
    simp
    by_cases h0 : n = 0 <;> simp [h0]
  | n :: k :: r, _, h => by
    obtain ⟨mx, e, h1, h2⟩ := maxI_zero (zs := k :: r) (by simp) fun z hz => h z (List.mem_cons_of_mem _ hz)
    have hn := h n List.mem_cons_self
    refine ⟨if n < mx then mx else n, ?_, ?_, ?_⟩
    · show (match maxI (k :: r) with | some m => some (if n < m then m else n) | none => none) = _
      rw [e]
    · split <;> omega
    · rw [List.any_cons, Bool.not_or, ← h2]
      by_cases h0 : n = 0
      · subst h0
        simp only [bne_self_eq_false, Bool.not_false, Bool.true_and]
        congr 1
        split
        · rfl
        · exact propext ⟨fun _ => by omega, fun _ => rfl⟩
      · have e1 : (n != 0) = true := by simp [h0]
        rw [e1]
        simp only [Bool.not_true, Bool.false_and, decide_eq_false_iff_not]
        split <;> omega
theorem bMax1_int {zs : List Int} {mx : Int} (h : maxI zs = some mx) : bMax1 [.lst (zs.map .int)] = some (.int mx) := by
  show (match intsOf (zs.map .int) with | some ns => (maxI ns).map D.int | none => none) = _
  rw [intsOf_int]
  dsimp only
  rw [h]
  rfl
/-- == of parts -/
theorem eqvs_map {α : Type} (f : α → D) (P : α → α → Prop) (h : ∀ a b, eqv (f a) (f b) = true ↔ a = b) : ∀ xs ys : List α, eqvs (xs.map f) (ys.map f) = true ↔ xs = ys
  | [], [] => ⟨fun _ => rfl, fun _ => rfl⟩
  | [], y :: ys => by
    show false = true ↔ _
    simp
  | x :: xs, [] => by
    show false = true ↔ _
    simp
  | x :: xs, y :: ys => by
    show (eqv (f x) (f y) && eqvs (xs.map f) (ys.map f)) = true ↔ _
    rw [Bool.and_eq_true, h, eqvs_map f P h xs ys, List.cons.injEq]
theorem eqv_word (a b : List Int) : eqv (wordD a) (wordD b) = true ↔ a = b := by
  show eqvs (a.map D.int) (b.map D.int) = true ↔ _
  exact eqvs_map D.int (fun _ _ => True) (fun i j => by show (i == j) = true ↔ _; simp) a b
theorem eqv_part (a b : List (List Int)) : eqv (partD a) (partD b) = true ↔ a = b := by
  show eqvs (a.map wordD) (b.map wordD) = true ↔ _
  exact eqvs_map wordD (fun _ _ => True) eqv_word a b
theorem eqv_parts (a b : List (List (List Int))) : eqv (partsD a) (partsD b) = true ↔ a = b := by
  show eqvs (a.map partD) (b.map partD) = true ↔ _
  exact eqvs_map partD (fun _ _ => True) eqv_part a b
theorem lays_map {α : Type} (f : α → D) (h : ∀ a, lay (f a) = true) : ∀ xs : List α, lays (xs.map f) = true
  | [] => rfl
  | x :: xs => by
    show (lay (f x) && lays (xs.map f)) = true
    rw [h, lays_map f h xs]
    rfl
theorem depths_map {α : Type} (f : α → D) (n : Nat) (h : ∀ a, depth (f a) ≤ n) : ∀ xs : List α, depths (xs.map f) ≤ n
  | [] => Nat.zero_le _
  | x :: xs => by
    show max (depth (f x)) (depths (xs.map f)) ≤ n
    exact Nat.max_le.mpr ⟨h x, depths_map f n h xs⟩
theorem shp_parts (ps : List (List (List Int))) : shp (partsD ps) = true := by
  unfold shp
  rw [Bool.and_eq_true, decide_eq_true_eq]
  refine ⟨lays_map partD (fun p => lays_map wordD (fun w => lays_map D.int (fun _ => rfl) w) p) ps, ?_⟩
  have h1 : ∀ w, depth (wordD w) ≤ 1 := fun w => Nat.succ_le_succ (depths_map D.int 0 (fun _ => Nat.le_refl _) w)
  have h2 : ∀ p, depth (partD p) ≤ 2 := fun p => Nat.succ_le_succ (depths_map wordD 1 h1 p)
  have h3 : depth (partsD ps) ≤ 3 := Nat.succ_le_succ (depths_map partD 2 h2 ps)
  omega
theorem oEq_parts (a b : List (List (List Int))) : oEq (partsD a) (partsD b) = some (.bl (decide (a = b))) := by
  unfold oEq
  rw [shp_parts, shp_parts]
  have : eqv (partsD a) (partsD b) = decide (a = b) := by
    rw [Bool.eq_iff_iff, eqv_parts, decide_eq_true_eq]
  rw [this]
  rfl
end K85
end

section
set_option Elab.async false
set_option linter.all false
set_option maxRecDepth 100000
set_option maxHeartbeats 1000000
namespace K85
open Z
local macro_rules | `(tactic| walk_at "z1") => `(tactic| first
  | with_reducible refine wf_seq ?_
  | with_reducible refine wf_ret ?_
  | with_reducible refine wf_retN ?_
  | with_reducible refine wf_set ?_
  | with_reducible refine wf_if ?_
  | with_reducible refine wf_expr ?_
  | with_reducible refine wf_nil ?_
  | with_reducible refine wf_par ?_
  | with_reducible refine wf_put ?_
  | with_reducible refine wf_raise ?_
  | with_reducible refine wf_raiseF ?_
  | with_reducible refine wf_for ?_
  | with_reducible refine wf_brk ?_
  | with_reducible refine wf_cnt ?_
  | ((with_reducible refine wf_frzR (j := ?zj) (xs := ?zx) ?zv ?zg ?_); (case zv => exact rfl); (case zg => first | exact get_head | exact rfl))
  | ((with_reducible refine wf_frzD (x := ?zx) ?zv ?_); (case zv => exact rfl))
  | with_reducible refine wf_asg ?_
  | with_reducible refine wp_K ?_
  | ((with_reducible refine wp_var (w := ?zw) ?zv ?_); (case zv => exact rfl))
  | with_reducible refine wp_op ?_
  | with_reducible refine wp_un ?_
  | with_reducible refine wp_chain ?_
  | with_reducible refine wp_tru ?_
  | with_reducible refine wp_TB ?_
  | with_reducible refine wp_tAnd ?_
  | with_reducible refine wp_tOr ?_
  | with_reducible refine wp_tNot ?_
  | with_reducible refine wp_cAnd ?_
  | with_reducible refine wp_cOr ?_
  | with_reducible refine wp_cNot ?_
  | with_reducible refine wp_cIf ?_
  | with_reducible refine wp_aNil ?_
  | with_reducible refine wp_aCons ?_
  | with_reducible refine wp_aStar ?_
  | with_reducible refine wp_tup ?_
  | with_reducible refine wp_disp ?_
  | with_reducible refine wp_frz ?_
  | with_reducible refine wp_new ?_
  | with_reducible refine wp_done ?_
  | with_reducible refine wp_bi ?_
  | with_reducible refine wp_is ?_
  | with_reducible refine wp_list ?_
  | with_reducible refine wp_pNone ?_
  | with_reducible refine wp_pSome ?_
  | with_reducible refine wp_sl ?_
  | with_reducible refine wp_lSl ?_
  | with_reducible refine wp_rev ?_
  | with_reducible refine wp_lRev ?_
  | with_reducible refine wp_callP_ok ?_
  | with_reducible refine wp_callI ?_
  | with_reducible refine wp_strM ?_
  | with_reducible refine wp_append ?_
  | with_reducible refine wp_extend ?_
  | with_reducible refine wp_iVal ?_
  | with_reducible refine wp_rg1 ?_
  | with_reducible refine wp_rg2 ?_
  | with_reducible refine wp_rg3 ?_
  | with_reducible refine wp_enum ?_
  | with_reducible refine wp_lc ?_
  | with_reducible refine wp_lc2 ?_
  | with_reducible refine wp_fldO ?_
  | with_reducible refine wp_gNm ?_
  | with_reducible refine wp_gFld ?_
  | with_reducible refine wf_fld ?_
  | with_reducible refine wp_make ?_
  | with_reducible refine wp_doneO ?_
  | with_reducible refine wp_gEach ?_
  | with_reducible refine wp_gEach_nil ?_
  | with_reducible refine wp_gAll ?_
  | with_reducible refine wp_gAll_nil ?_
  | with_reducible refine wf_parT ?_
  | with_reducible refine wp_gTp ?_
  | with_reducible refine wp_ok ?_)
local macro_rules | `(tactic| walk_at "zr") => `(tactic| exact rfl)
local macro_rules | `(tactic| walk_at "zr") => `(tactic| ((with_reducible refine oMod_int ?_); first | with_reducible assumption | omega))
local macro_rules | `(tactic| walk_at "zr") => `(tactic| ((with_reducible refine oDiv_int ?_ ?_) <;> first | with_reducible assumption | omega))
local macro_rules | `(tactic| walk_at "zr") => `(tactic| ((with_reducible refine oMul_int ?_); first | with_reducible assumption | omega))
local macro_rules | `(tactic| walk_at "zr") => `(tactic| ((with_reducible refine bDivmod_int ?_ ?_) <;> first | with_reducible assumption | omega))
local macro_rules | `(tactic| walk_at "zr") => `(tactic| with_reducible exact rfl)
local macro_rules | `(tactic| walk_at "zr") => `(tactic| ((with_reducible refine atD_int ?_ ?_) <;> first | with_reducible assumption | omega))
local macro_rules | `(tactic| walk_at "zr") => `(tactic| ((with_reducible refine setD_int ?_ ?_) <;> first | with_reducible assumption | omega))
local macro_rules | `(tactic| walk_at "zr") => `(tactic| with_reducible exact bAll_fun _ _)
local macro_rules | `(tactic| walk_at "zr") => `(tactic| with_reducible exact bAny_fun _ _)
local macro_rules | `(tactic| walk_at "zc") => `(tactic| with_reducible assumption)
local macro_rules | `(tactic| walk_at "zl") => `(tactic| first
  | with_reducible exact rfl
  | with_reducible assumption
  | ((with_reducible refine okR_int ?_ ?_) <;> first | omega | (simp only [List.length_map]; omega))
  | ((with_reducible refine okR2 ?_ ?_ ?_ ?_) <;> first | omega | (simp only [List.length_map]; omega))
  | ((with_reducible refine okR3 ?_ ?_ ?_ ?_ ?_ ?_) <;> first | omega | decide | (simp only [List.length_map]; omega))
  | (simp only [List.length_map, List.length_append, List.length_cons, List.length_nil, List.length_replicate, List.length_reverse, LIM]; omega)
  | exact rfl
  | decide
  | fail)
local macro_rules | `(tactic| walk_at "zr") => `(tactic| with_reducible exact get_head)
local macro_rules | `(tactic| walk_at "zr") => `(tactic| ((with_reducible refine oMul_tup ?_ ?_ ?_) <;> first | omega | decide))
local macro_rules | `(tactic| walk_at "zr") => `(tactic| ((with_reducible refine oAdd_tup ?_); first | omega | (simp only [prep_len, List.length_map, List.length_append, List.length_cons, List.length_nil, List.length_reverse, List.length_replicate]; omega)))
local macro_rules | `(tactic| walk_at "zr") => `(tactic| ((with_reducible refine oAdd_lst ?_); first | omega | (simp only [prep_len, List.length_map, List.length_append, List.length_cons, List.length_nil, List.length_reverse, List.length_replicate]; omega)))
local macro_rules | `(tactic| walk_at "z2") => `(tactic| first
  | ((with_reducible refine Exists.intro ?za (Exists.intro ?zb (Exists.intro ?zc (Exists.intro ?zd (Exists.intro ?ze (And.intro ?z1 (And.intro ?z2 (And.intro ?z3 (And.intro ?z4 (And.intro ?z5 ?_)))))))))); (case z1 => exact rfl); (case z2 => exact rfl); (case z3 => exact rfl); (case z4 => exact rfl); (case z5 => walk_at "zr"))
  | ((with_reducible refine Exists.intro ?za (Exists.intro ?zb (Exists.intro ?zc (Exists.intro ?zd (And.intro ?z1 (And.intro ?z2 (And.intro ?z3 ?_))))))); (case z1 => exact rfl); (case z2 => walk_at "zr"); (case z3 => walk_at "zr"))
  | ((with_reducible refine Exists.intro ?za (Exists.intro ?zb (Exists.intro ?zc (And.intro ?z1 (And.intro ?z2 (And.intro ?z3 ?_)))))); (case z1 => exact rfl); (case z2 => exact rfl); (case z3 => walk_at "zr"))
  | ((with_reducible refine Exists.intro ?za (Exists.intro ?zb (And.intro ?z1 (And.intro ?z2 ?_)))); (case z1 => exact rfl); (case z2 => first | with_reducible assumption | walk_at "zc" | walk_at "zr"))
  | ((with_reducible refine Exists.intro ?za (And.intro ?z1 ?_)); (case z1 => first | exact rfl | ((with_reducible refine asDs_star (zs := ?zq) ?zh); (case zh => exact rfl))))
  | ((with_reducible refine Or.inl (Exists.intro ?za (Exists.intro ?zb (And.intro ?z1 (And.intro ?z2 ?_))))); (case z1 => exact rfl); (case z2 => exact rfl))
  | with_reducible refine And.intro (fun z => absurd z (by decide)) (fun _ => ?_)
  | with_reducible refine And.intro (fun _ => ?_) (fun z => absurd z (by decide))
  | (refine And.intro (fun hz => ?_) (fun hz => ?_) <;> try simp only [decide_eq_true_eq, decide_eq_false_iff_not, Bool.not_eq_true', Bool.not_eq_false', Int.not_le, Int.not_lt, eqv_int, beq_iff_eq, beq_eq_false_iff_ne, ne_eq, bne_iff_ne] at hz)
  | ((with_reducible refine And.intro ?z1 ?_); (case z1 => walk_at "zl"))
  | fail)
local macro_rules | `(tactic| walk_at "z") => `(tactic| repeat' ((first | walk_at "z1" | walk_at "z2"); try dsimp only [List.set_cons_zero, List.set_cons_succ, S.add, S.nil, S.put]; try simp only [setO_head, del_mk, delO_head, delO_nil]))
local macro_rules | `(tactic| walk_at "z0") => `(tactic| simp only [start, List.map_cons, List.map_nil, List.length_cons, List.length_nil, Nat.reduceAdd, Nat.reduceSub, Nat.zero_add, Nat.sub_self, List.replicate_zero, List.replicate_succ, List.cons_append, List.nil_append, List.append_nil])
local macro_rules | `(tactic| walk_at "zp") => `(tactic| ((with_reducible refine runP_w ?h1 ?h2); (case h1 => rfl)))
local macro_rules | `(tactic| walk_at "zp") => `(tactic| ((with_reducible refine runP_of ?h1 ?h2); (case h1 => rfl)))
local macro_rules | `(tactic| walk_at "zi") => `(tactic| ((with_reducible refine runI_w ?h1 ?h2); (case h1 => rfl)))
local macro_rules | `(tactic| walk_at "zs") => `(tactic| ((first | walk_at "z1" | walk_at "z2"); try dsimp only [List.set_cons_zero, List.set_cons_succ, S.add, S.nil, S.put]; try simp only [setO_head, del_mk, delO_head, delO_nil]))
local macro_rules | `(tactic| walk_at "zr") => `(tactic| ((with_reducible refine oMul_lst ?_ ?_ ?_) <;> first | omega | (simp only [prep_len, List.length_map, List.length_append, List.length_cons, List.length_nil, List.length_reverse, List.length_replicate]; omega)))
local macro_rules | `(tactic| walk_at "zc") => `(tactic| with_reducible exact is_whole_int _)
local macro_rules | `(tactic| walk_at "zc") => `(tactic| with_reducible exact is_within_int _ _ _)
local macro_rules | `(tactic| walk_at "zc") => `(tactic| (with_reducible refine size_in_ok ?_; with_reducible assumption))
local macro_rules | `(tactic| walk_at "zc") => `(tactic| (with_reducible refine lt_size_ok ?_; with_reducible assumption))
local macro_rules | `(tactic| walk_at "zc") => `(tactic| (with_reducible refine require_base_ok ?_; with_reducible assumption))
local macro_rules | `(tactic| walk_at "zc") => `(tactic| (with_reducible refine sign_size_ok ?_; with_reducible assumption))
local macro_rules | `(tactic| walk_at "zc") => `(tactic| ((with_reducible refine require_rows_ok ?_ ?_) <;> omega))
local macro_rules | `(tactic| walk_at "zc") => `(tactic| ((with_reducible refine digits_in_ok ?_ ?_ ?_) <;> omega))
local macro_rules | `(tactic| walk_at "zc") => `(tactic| ((with_reducible refine lt_digits_ok ?_ ?_ ?_) <;> omega))
local macro_rules | `(tactic| walk_at "zc") => `(tactic| ((with_reducible refine number_of_digits_ok ?_ ?_ _) <;> omega))
local macro_rules | `(tactic| walk_at "zc") => `(tactic| ((with_reducible refine many_parts_ok ?_ ?_ ?_ ?_ ?_ ?_) <;> first | with_reducible assumption | omega))
local macro_rules | `(tactic| walk_at "zc") => `(tactic| with_reducible exact lt_signs_ok)
local macro_rules | `(tactic| walk_at "zr") => `(tactic| ((with_reducible refine kIndex_sgT ?_ ?_) <;> first | with_reducible assumption | exact rfl))
local macro_rules | `(tactic| walk_at "zc") => `(tactic| ((with_reducible refine require_letter_ok _ ?_ ?_) <;> first | with_reducible assumption | omega))
local macro_rules | `(tactic| walk_at "zc") => `(tactic| ((with_reducible refine parts_in_ok ?_ ?_ ?_ ?_ ?_ _ ?_ ?_) <;> first | with_reducible assumption | omega))
local macro_rules | `(tactic| walk_at "zc") => `(tactic| ((with_reducible refine lt_parts_ok ?_ ?_ ?_ ?_ ?_ _ ?_ ?_) <;> first | with_reducible assumption | omega))
local macro_rules | `(tactic| walk_at "zc") => `(tactic| ((with_reducible refine parts_of_ok ?_ ?_ ?_ ?_ ?_ _ ?_ ?_) <;> first | with_reducible assumption | omega))
local macro_rules | `(tactic| walk_at "zr") => `(tactic| ((with_reducible refine idx_sg ?_ ?_ ?_) <;> first | omega | exact rfl))
local macro_rules | `(tactic| walk_at "zr") => `(tactic| with_reducible assumption)
local macro_rules | `(tactic| walk_at "zc") => `(tactic| (with_reducible refine joined_ok _ ?_; omega))
local macro_rules | `(tactic| walk_at "zr") => `(tactic| with_reducible exact oEq_parts _ _)
def okL (q : Int) (m r : Nat) (ps : List (List (List Int))) (ks : List Nat) : Bool := !((digsOf ps).drop (sz q * ks.length)).any (· != 0) && decide (ps = enc q m r ks)
def resL (q : Int) (m r : Nat) (ps : List (List (List Int))) : Res := dec q (digsOf ps) (okL q m r ps) ((digsOf ps).length / sz q) []
theorem digsOf_snoc (ps : List (List (List Int))) (p : List (List Int)) : digsOf (ps ++ [p]) = digsOf ps ++ p.flatten := by simp [digsOf]
theorem len_take_le {α : Type} (xs : List (List α)) (k : Nat) : (xs.take k).flatten.length ≤ xs.flatten.length := by
  conv => rhs; rw [← List.take_append_drop k xs]
  rw [List.flatten_append, List.length_append]
  omega
theorem letD_snoc (ks : List Nat) (k : Nat) : letD (ks ++ [k]) = .str (ks.map sg ++ [sg k]) := by simp [letD]
theorem lt_told_ok {q : Int} {m r : Nat} (hq : q ∈ primes) (hm : 1 ≤ m) (hm2 : m ≤ 6) (hr : 1 ≤ r) (hr2 : r ≤ 12) (ps : List (List (List Int))) (hps : Pts q m r ps) (hpl : ps.length ≤ 3000) : F__law_lt_told [.int q, .int m, .int r, partsD ps] = .ok (lawD (resL q m r ps)) := by
  have hqb := prime_bd hq
  have hsz := sz_bd q
  have h1 : 1 ≤ r * m := Nat.mul_pos hr hm
  have h2 : r * m ≤ 12 * 6 := Nat.mul_le_mul hr2 hm2
  have hdl := digsOf_len hps
  have hdl2 : ps.length * (r * m) ≤ 3000 * (12 * 6) := Nat.mul_le_mul hpl h2
  unfold F__law_lt_told
  walk_at "zp"
  unfold f__law_lt_told
  walk_at "z0"
  walk_at "z"
  refine wf_turns (fun j e s => ∃ w w', e = [some (W.d (D.int q)), some (W.d (D.int ↑m)), some (W.d (D.int ↑r)), some (W.d (partsD ps)), w, none,
        some (W.ref 0), some (W.d (D.int ↑(sz q))), some (W.d (D.str [])), w', none, none, none] ∧ s = ⟨1, [(0, .lst ((digsOf (ps.take j)).map .int))]⟩) ⟨_, _, rfl, rfl⟩ (fun j x e s hj hx h => ?_) (fun e s h => ?_)
  · obtain ⟨w, w', rfl, rfl⟩ := h
    rw [List.length_map] at hj
    rw [List.getElem?_map, List.getElem?_eq_getElem hj] at hx
    cases hx
    have e1 : ps.take (j + 1) = ps.take j ++ [ps[j]] := by simp
    have hp := hps _ (List.getElem_mem hj)
    have hdt := digsOf_len (q := q) (m := m) (r := r) (ps := ps.take j) (fun p hp => hps p (List.mem_of_mem_take hp))
    have hdt2 : (ps.take j).length * (r * m) ≤ 3000 * (12 * 6) := Nat.mul_le_mul (by rw [List.length_take]; omega) h2
    generalize ps[j] = p at *
    have hpf := pt_len hp
    walk_at "z"
    refine wf_turns (fun i e s => ∃ w', e = [some (W.d (D.int q)), some (W.d (D.int ↑m)), some (W.d (D.int ↑r)), some (W.d (partsD ps)), some (W.d (partD p)), none,
        some (W.ref 0), some (W.d (D.int ↑(sz q))), some (W.d (D.str [])), w', none, none, none] ∧ s = ⟨1, [(0, .lst ((digsOf (ps.take j) ++ (p.take i).flatten).map .int))]⟩) ⟨_, rfl, by simp⟩ (fun i x e s hi hx h => ?_) (fun e s h => ?_)
    · obtain ⟨w', rfl, rfl⟩ := h
      rw [List.length_map] at hi
      rw [List.getElem?_map, List.getElem?_eq_getElem hi] at hx
      cases hx
      have e1 : p.take (i + 1) = p.take i ++ [p[i]] := by simp
      have hwl := (hp.2 _ (List.getElem_mem hi)).1
      have hft := len_take_le p i
      generalize p[i] = wd at *
      walk_at "z"
      rw [e1, List.flatten_append, ← List.append_assoc, List.map_append (l₂ := [wd].flatten)]
      simp
    · obtain ⟨w', rfl, rfl⟩ := h
      refine ⟨_, _, rfl, ?_⟩
      rw [e1, digsOf_snoc, List.length_map, List.take_length]
  · obtain ⟨w, w', rfl, rfl⟩ := h
    rw [List.length_map, List.take_length]
    generalize hR : resL q m r ps = R0
    unfold resL at hR
    have hokL : ∀ ks, okL q m r ps ks = (!((digsOf ps).drop (sz q * ks.length)).any (· != 0) && decide (ps = enc q m r ks)) := fun _ => rfl
    generalize okL q m r ps = okl at *
    have hnn := fun d hd => (pts_nn hps d hd).1
    generalize digsOf ps = ds at *
    have hN3 : ds.length / sz q * sz q ≤ ds.length := Nat.div_mul_le_self _ _
    have hN4 : ds.length / sz q ≤ ds.length := Nat.div_le_self _ _
    have hd : ((ds.map D.int).length : Int) / (sz q : Int) = ((ds.length / sz q : Nat) : Int) := by
      rw [List.length_map, Int.natCast_ediv]
    generalize hN : ds.length / sz q = N at *
    have hok : okR (((ds.map D.int).length : Int) / (sz q : Int)) = true := by rw [hd]; exact okR_int (by omega) (by omega)
    walk_at "z"
    rw [hd, Int.toNat_natCast]
    refine wf_turns (fun k e s => ∃ (ks : List Nat) (w w' w1 w2 w3 : Option W), ks.length = k ∧ ks.length ≤ 400 ∧ (∀ k ∈ ks, k < 43) ∧ dec q ds okl (N - k) ks = R0 ∧ e = [some (W.d (D.int q)), some (W.d (D.int ↑m)), some (W.d (D.int ↑r)), some (W.d (partsD ps)), w, w1,
        some (W.d (D.lst (ds.map .int))), some (W.d (D.int ↑(sz q))), some (W.d (letD ks)), w', w2, w3, none] ∧ s = ⟨1, []⟩) ⟨[], _, _, _, _, _, rfl, by simp, by simp, hR, rfl, rfl⟩ (fun k x e s hk hx h => ?_) (fun e s h => ?_)
    · obtain ⟨ks, w, w', w1, w2, w3, hkl, hk4, hk43, hdec, rfl, rfl⟩ := h
      rw [rangeL_len] at hk
      obtain ⟨hk, rfl⟩ := rangeL_get hx
      simp only [Int.zero_add]
      have hkN : sz q * (k + 1) ≤ ds.length := by
        have := Nat.mul_le_mul_left (sz q) (show k + 1 ≤ N by omega)
        rw [Nat.mul_comm N] at hN3
        omega
      rw [Nat.mul_succ] at hkN
      have hcut : cutD (ds.map D.int) (some ((k : Int) * (sz q : Int))) (some ((k : Int) * (sz q : Int) + (sz q : Int))) = ((ds.drop (sz q * k)).take (sz q)).map D.int := by
        rw [cut_chunk, Nat.mul_comm, ← List.map_drop, ← List.map_take]
      have hcf : cutD (ds.map D.int) (some ((k : Int) * (sz q : Int))) none = (ds.drop (sz q * k)).map D.int := by
        rw [cut_from (a := sz q * k) _ (by rw [Nat.mul_comm]; simp), ← List.map_drop]
      obtain ⟨mx, hmx, hmx0, hmx1⟩ := maxI_zero (zs := ds.drop (sz q * k)) (by
        intro h0
        have := congrArg List.length h0
        rw [List.length_drop, List.length_nil] at this
        omega) (fun z hz => hnn z (List.mem_of_mem_drop hz))
      have hbm : bMax1 [.lst (cutD (ds.map D.int) (some ((k : Int) * (sz q : Int))) none)] = some (.int mx) := by
        rw [hcf]
        exact bMax1_int hmx
      rw [show N - k = (N - (k + 1)) + 1 by omega, dec, hkl] at hdec
      have hv := numD_nonneg (q := q) (by omega) (ds := (ds.drop (sz q * k)).take (sz q)) fun d hd => hnn d (List.mem_of_mem_drop (List.mem_of_mem_take hd))
      rw [hokL, hkl, ← hmx1] at hdec
      walk_at "z"
      rw [hcut]
      generalize (ds.drop (sz q * k)).take (sz q) = wd at *
      refine wf_turns (fun i e s => ∃ (w3 : Option W), e = [some (W.d (D.int q)), some (W.d (D.int ↑m)), some (W.d (D.int ↑r)), some (W.d (partsD ps)), w, some (W.d (D.int ↑k)),
        some (W.d (D.lst (ds.map .int))), some (W.d (D.int ↑(sz q))), some (W.d (letD ks)), w', some (W.d (.int (numD q (wd.take i)))), w3, none] ∧ s = ⟨1, []⟩) ⟨_, rfl, rfl⟩ (fun i x e s hi hx h => ?_) (fun e s h => ?_)
      · obtain ⟨w3, rfl, rfl⟩ := h
        rw [List.length_map] at hi
        rw [List.getElem?_map, List.getElem?_eq_getElem hi] at hx
        cases hx
        have e1 : wd.take (i + 1) = wd.take i ++ [wd[i]] := by simp
        walk_at "z"
        exact ⟨_, by rw [e1, numD_snoc], rfl⟩
      · obtain ⟨w3, rfl, rfl⟩ := h
        rw [List.length_map, List.take_length]
        generalize hvv : numD q wd = v at *
        walk_at "z"
        · rename_i z1 z2 z3
          rw [if_pos z1, if_pos (by rw [decide_eq_true z2, decide_eq_true z3]; rfl)] at hdec
          rw [← hdec]
          rfl
        · rename_i z1 z2 z3
          rw [if_pos z1, if_neg (by rw [decide_eq_true z2, decide_eq_false z3]; exact Bool.noConfusion)] at hdec
          rw [← hdec]
          rfl
        · rename_i z1 z2 z3
          rw [if_pos z1, if_neg (by rw [decide_eq_false z2]; exact Bool.noConfusion)] at hdec
          rw [← hdec]
          rfl
        · rename_i z1 z2
          rw [if_neg z1, if_pos z2] at hdec
          rw [← hdec]
          rfl
        · rename_i z1 z2 z3
          rw [if_neg z1, if_neg (by omega), if_pos (by omega)] at hdec
          rw [← hdec]
          rfl
        · rename_i z1 z2 z3
          rw [if_neg z1, if_neg (by omega), if_neg (by omega)] at hdec
          refine ⟨_, _, _, rfl, rfl, oAdd_str (by rw [List.length_map]; simp only [List.length_cons, List.length_nil]; omega), ks ++ [(v - 1).toNat], _, _, _, _, _, by rw [List.length_append, List.length_singleton]; omega, by rw [List.length_append, List.length_singleton]; omega, ?_, hdec, by rw [letD_snoc], rfl⟩
          intro k hk
          rw [List.mem_append, List.mem_singleton] at hk
          rcases hk with hk | rfl
          · exact hk43 k hk
          · omega
    · obtain ⟨ks, w, w', w1, w2, w3, hkl, hk4, hk43, hdec, rfl, rfl⟩ := h
      rw [rangeL_len] at hdec
      rw [Nat.sub_self, dec] at hdec
      walk_at "z"
      rw [← hdec]
      rfl
end K85
end

section
set_option Elab.async false
set_option linter.all false
set_option maxRecDepth 100000
set_option maxHeartbeats 1000000
namespace K85
open Z
local macro_rules | `(tactic| walk_at "z1") => `(tactic| first
  | with_reducible refine wf_seq ?_
  | with_reducible refine wf_ret ?_
  | with_reducible refine wf_retN ?_
  | with_reducible refine wf_set ?_
  | with_reducible refine wf_if ?_
  | with_reducible refine wf_expr ?_
  | with_reducible refine wf_nil ?_
  | with_reducible refine wf_par ?_
  | with_reducible refine wf_put ?_
  | with_reducible refine wf_raise ?_
  | with_reducible refine wf_raiseF ?_
  | with_reducible refine wf_for ?_
  | with_reducible refine wf_brk ?_
  | with_reducible refine wf_cnt ?_
  | ((with_reducible refine wf_frzR (j := ?zj) (xs := ?zx) ?zv ?zg ?_); (case zv => exact rfl); (case zg => first | exact get_head | exact rfl))
  | ((with_reducible refine wf_frzD (x := ?zx) ?zv ?_); (case zv => exact rfl))
  | with_reducible refine wf_asg ?_
  | with_reducible refine wp_K ?_
  | ((with_reducible refine wp_var (w := ?zw) ?zv ?_); (case zv => exact rfl))
  | with_reducible refine wp_op ?_
  | with_reducible refine wp_un ?_
  | with_reducible refine wp_chain ?_
  | with_reducible refine wp_tru ?_
  | with_reducible refine wp_TB ?_
  | with_reducible refine wp_tAnd ?_
  | with_reducible refine wp_tOr ?_
  | with_reducible refine wp_tNot ?_
  | with_reducible refine wp_cAnd ?_
  | with_reducible refine wp_cOr ?_
  | with_reducible refine wp_cNot ?_
  | with_reducible refine wp_cIf ?_
  | with_reducible refine wp_aNil ?_
  | with_reducible refine wp_aCons ?_
  | with_reducible refine wp_aStar ?_
  | with_reducible refine wp_tup ?_
  | with_reducible refine wp_disp ?_
  | with_reducible refine wp_frz ?_
  | with_reducible refine wp_new ?_
  | with_reducible refine wp_done ?_
  | with_reducible refine wp_bi ?_
  | with_reducible refine wp_is ?_
  | with_reducible refine wp_list ?_
  | with_reducible refine wp_pNone ?_
  | with_reducible refine wp_pSome ?_
  | with_reducible refine wp_sl ?_
  | with_reducible refine wp_lSl ?_
  | with_reducible refine wp_rev ?_
  | with_reducible refine wp_lRev ?_
  | with_reducible refine wp_callP_ok ?_
  | with_reducible refine wp_callI ?_
  | with_reducible refine wp_strM ?_
  | with_reducible refine wp_append ?_
  | with_reducible refine wp_extend ?_
  | with_reducible refine wp_iVal ?_
  | with_reducible refine wp_rg1 ?_
  | with_reducible refine wp_rg2 ?_
  | with_reducible refine wp_rg3 ?_
  | with_reducible refine wp_enum ?_
  | with_reducible refine wp_lc ?_
  | with_reducible refine wp_lc2 ?_
  | with_reducible refine wp_fldO ?_
  | with_reducible refine wp_gNm ?_
  | with_reducible refine wp_gFld ?_
  | with_reducible refine wf_fld ?_
  | with_reducible refine wp_make ?_
  | with_reducible refine wp_doneO ?_
  | with_reducible refine wp_gEach ?_
  | with_reducible refine wp_gEach_nil ?_
  | with_reducible refine wp_gAll ?_
  | with_reducible refine wp_gAll_nil ?_
  | with_reducible refine wf_parT ?_
  | with_reducible refine wp_gTp ?_
  | with_reducible refine wp_ok ?_)
local macro_rules | `(tactic| walk_at "zr") => `(tactic| exact rfl)
local macro_rules | `(tactic| walk_at "zr") => `(tactic| ((with_reducible refine oMod_int ?_); first | with_reducible assumption | omega))
local macro_rules | `(tactic| walk_at "zr") => `(tactic| ((with_reducible refine oDiv_int ?_ ?_) <;> first | with_reducible assumption | omega))
local macro_rules | `(tactic| walk_at "zr") => `(tactic| ((with_reducible refine oMul_int ?_); first | with_reducible assumption | omega))
local macro_rules | `(tactic| walk_at "zr") => `(tactic| ((with_reducible refine bDivmod_int ?_ ?_) <;> first | with_reducible assumption | omega))
local macro_rules | `(tactic| walk_at "zr") => `(tactic| with_reducible exact rfl)
local macro_rules | `(tactic| walk_at "zr") => `(tactic| ((with_reducible refine atD_int ?_ ?_) <;> first | with_reducible assumption | omega))
local macro_rules | `(tactic| walk_at "zr") => `(tactic| ((with_reducible refine setD_int ?_ ?_) <;> first | with_reducible assumption | omega))
local macro_rules | `(tactic| walk_at "zr") => `(tactic| with_reducible exact bAll_fun _ _)
local macro_rules | `(tactic| walk_at "zr") => `(tactic| with_reducible exact bAny_fun _ _)
local macro_rules | `(tactic| walk_at "zc") => `(tactic| with_reducible assumption)
local macro_rules | `(tactic| walk_at "zl") => `(tactic| first
  | with_reducible exact rfl
  | with_reducible assumption
  | ((with_reducible refine okR_int ?_ ?_) <;> first | omega | (simp only [List.length_map]; omega))
  | ((with_reducible refine okR2 ?_ ?_ ?_ ?_) <;> first | omega | (simp only [List.length_map]; omega))
  | ((with_reducible refine okR3 ?_ ?_ ?_ ?_ ?_ ?_) <;> first | omega | decide | (simp only [List.length_map]; omega))
  | (simp only [List.length_map, List.length_append, List.length_cons, List.length_nil, List.length_replicate, List.length_reverse, LIM]; omega)
  | exact rfl
  | decide
  | fail)
local macro_rules | `(tactic| walk_at "zr") => `(tactic| with_reducible exact get_head)
local macro_rules | `(tactic| walk_at "zr") => `(tactic| ((with_reducible refine oMul_tup ?_ ?_ ?_) <;> first | omega | decide))
local macro_rules | `(tactic| walk_at "zr") => `(tactic| ((with_reducible refine oAdd_tup ?_); first | omega | (simp only [prep_len, List.length_map, List.length_append, List.length_cons, List.length_nil, List.length_reverse, List.length_replicate]; omega)))
local macro_rules | `(tactic| walk_at "zr") => `(tactic| ((with_reducible refine oAdd_lst ?_); first | omega | (simp only [prep_len, List.length_map, List.length_append, List.length_cons, List.length_nil, List.length_reverse, List.length_replicate]; omega)))
local macro_rules | `(tactic| walk_at "z2") => `(tactic| first
  | ((with_reducible refine Exists.intro ?za (Exists.intro ?zb (Exists.intro ?zc (Exists.intro ?zd (Exists.intro ?ze (And.intro ?z1 (And.intro ?z2 (And.intro ?z3 (And.intro ?z4 (And.intro ?z5 ?_)))))))))); (case z1 => exact rfl); (case z2 => exact rfl); (case z3 => exact rfl); (case z4 => exact rfl); (case z5 => walk_at "zr"))
  | ((with_reducible refine Exists.intro ?za (Exists.intro ?zb (Exists.intro ?zc (Exists.intro ?zd (And.intro ?z1 (And.intro ?z2 (And.intro ?z3 ?_))))))); (case z1 => exact rfl); (case z2 => walk_at "zr"); (case z3 => walk_at "zr"))
  | ((with_reducible refine Exists.intro ?za (Exists.intro ?zb (Exists.intro ?zc (And.intro ?z1 (And.intro ?z2 (And.intro ?z3 ?_)))))); (case z1 => exact rfl); (case z2 => exact rfl); (case z3 => walk_at "zr"))
  | ((with_reducible refine Exists.intro ?za (Exists.intro ?zb (And.intro ?z1 (And.intro ?z2 ?_)))); (case z1 => exact rfl); (case z2 => first | with_reducible assumption | walk_at "zc" | walk_at "zr"))
  | ((with_reducible refine Exists.intro ?za (And.intro ?z1 ?_)); (case z1 => first | exact rfl | ((with_reducible refine asDs_star (zs := ?zq) ?zh); (case zh => exact rfl))))
  | ((with_reducible refine Or.inl (Exists.intro ?za (Exists.intro ?zb (And.intro ?z1 (And.intro ?z2 ?_))))); (case z1 => exact rfl); (case z2 => exact rfl))
  | with_reducible refine And.intro (fun z => absurd z (by decide)) (fun _ => ?_)
  | with_reducible refine And.intro (fun _ => ?_) (fun z => absurd z (by decide))
  | (refine And.intro (fun hz => ?_) (fun hz => ?_) <;> try simp only [decide_eq_true_eq, decide_eq_false_iff_not, Bool.not_eq_true', Bool.not_eq_false', Int.not_le, Int.not_lt, eqv_int, beq_iff_eq, beq_eq_false_iff_ne, ne_eq, bne_iff_ne] at hz)
  | ((with_reducible refine And.intro ?z1 ?_); (case z1 => walk_at "zl"))
  | fail)
local macro_rules | `(tactic| walk_at "z") => `(tactic| repeat' ((first | walk_at "z1" | walk_at "z2"); try dsimp only [List.set_cons_zero, List.set_cons_succ, S.add, S.nil, S.put]; try simp only [setO_head, del_mk, delO_head, delO_nil]))
local macro_rules | `(tactic| walk_at "z0") => `(tactic| simp only [start, List.map_cons, List.map_nil, List.length_cons, List.length_nil, Nat.reduceAdd, Nat.reduceSub, Nat.zero_add, Nat.sub_self, List.replicate_zero, List.replicate_succ, List.cons_append, List.nil_append, List.append_nil])
local macro_rules | `(tactic| walk_at "zp") => `(tactic| ((with_reducible refine runP_w ?h1 ?h2); (case h1 => rfl)))
local macro_rules | `(tactic| walk_at "zp") => `(tactic| ((with_reducible refine runP_of ?h1 ?h2); (case h1 => rfl)))
local macro_rules | `(tactic| walk_at "zi") => `(tactic| ((with_reducible refine runI_w ?h1 ?h2); (case h1 => rfl)))
local macro_rules | `(tactic| walk_at "zs") => `(tactic| ((first | walk_at "z1" | walk_at "z2"); try dsimp only [List.set_cons_zero, List.set_cons_succ, S.add, S.nil, S.put]; try simp only [setO_head, del_mk, delO_head, delO_nil]))
local macro_rules | `(tactic| walk_at "zr") => `(tactic| ((with_reducible refine oMul_lst ?_ ?_ ?_) <;> first | omega | (simp only [prep_len, List.length_map, List.length_append, List.length_cons, List.length_nil, List.length_reverse, List.length_replicate]; omega)))
local macro_rules | `(tactic| walk_at "zc") => `(tactic| with_reducible exact is_whole_int _)
local macro_rules | `(tactic| walk_at "zc") => `(tactic| with_reducible exact is_within_int _ _ _)
local macro_rules | `(tactic| walk_at "zc") => `(tactic| (with_reducible refine size_in_ok ?_; with_reducible assumption))
local macro_rules | `(tactic| walk_at "zc") => `(tactic| (with_reducible refine lt_size_ok ?_; with_reducible assumption))
local macro_rules | `(tactic| walk_at "zc") => `(tactic| (with_reducible refine require_base_ok ?_; with_reducible assumption))
local macro_rules | `(tactic| walk_at "zc") => `(tactic| (with_reducible refine sign_size_ok ?_; with_reducible assumption))
local macro_rules | `(tactic| walk_at "zc") => `(tactic| ((with_reducible refine require_rows_ok ?_ ?_) <;> omega))
local macro_rules | `(tactic| walk_at "zc") => `(tactic| ((with_reducible refine digits_in_ok ?_ ?_ ?_) <;> omega))
local macro_rules | `(tactic| walk_at "zc") => `(tactic| ((with_reducible refine lt_digits_ok ?_ ?_ ?_) <;> omega))
local macro_rules | `(tactic| walk_at "zc") => `(tactic| ((with_reducible refine number_of_digits_ok ?_ ?_ _) <;> omega))
local macro_rules | `(tactic| walk_at "zc") => `(tactic| ((with_reducible refine many_parts_ok ?_ ?_ ?_ ?_ ?_ ?_) <;> first | with_reducible assumption | omega))
local macro_rules | `(tactic| walk_at "zc") => `(tactic| with_reducible exact lt_signs_ok)
local macro_rules | `(tactic| walk_at "zr") => `(tactic| ((with_reducible refine kIndex_sgT ?_ ?_) <;> first | with_reducible assumption | exact rfl))
local macro_rules | `(tactic| walk_at "zc") => `(tactic| ((with_reducible refine require_letter_ok _ ?_ ?_) <;> first | with_reducible assumption | omega))
local macro_rules | `(tactic| walk_at "zc") => `(tactic| ((with_reducible refine parts_in_ok ?_ ?_ ?_ ?_ ?_ _ ?_ ?_) <;> first | with_reducible assumption | omega))
local macro_rules | `(tactic| walk_at "zc") => `(tactic| ((with_reducible refine lt_parts_ok ?_ ?_ ?_ ?_ ?_ _ ?_ ?_) <;> first | with_reducible assumption | omega))
local macro_rules | `(tactic| walk_at "zc") => `(tactic| ((with_reducible refine parts_of_ok ?_ ?_ ?_ ?_ ?_ _ ?_ ?_) <;> first | with_reducible assumption | omega))
local macro_rules | `(tactic| walk_at "zr") => `(tactic| ((with_reducible refine idx_sg ?_ ?_ ?_) <;> first | omega | exact rfl))
local macro_rules | `(tactic| walk_at "zr") => `(tactic| with_reducible assumption)
local macro_rules | `(tactic| walk_at "zc") => `(tactic| (with_reducible refine joined_ok _ ?_; omega))
local macro_rules | `(tactic| walk_at "zr") => `(tactic| with_reducible exact oEq_parts _ _)
theorem chunk_flat {α : Type} {n : Nat} : ∀ {xs : List (List α)}, (∀ x ∈ xs, x.length = n) → chunk n xs.length xs.flatten = xs
  | [], _ => rfl
  | x :: xs, h => by
    have hx := h x List.mem_cons_self
    have ih := chunk_flat (n := n) (xs := xs) fun y hy => h y (List.mem_cons_of_mem _ hy)
    unfold chunk at *
    rw [List.length_cons, List.range_succ_eq_map, List.map_cons, List.map_map, List.flatten_cons]
    congr 1
    · rw [Nat.zero_mul, List.drop_zero, ← hx, List.take_left']
      rfl
    · conv => rhs; rw [← ih]
      refine List.map_congr_left fun i _ => ?_
      show ((x ++ xs.flatten).drop ((i + 1) * n)).take n = _
      rw [Nat.succ_mul, Nat.add_comm, ← hx, ← List.drop_drop, List.drop_left']
      rfl
theorem digsOf_flat (ps : List (List (List Int))) : digsOf ps = ps.flatten.flatten := by
  unfold digsOf
  induction ps with
  | nil => rfl
  | cons p ps ih => rw [List.map_cons, List.flatten_cons, List.flatten_cons, List.flatten_append, ih]
theorem chunk_pts {q : Int} {m r : Nat} {ps : List (List (List Int))} (h : Pts q m r ps) : chunk r ps.length (chunk m (ps.length * r) (digsOf ps)) = ps := by
  have h1 : ∀ p ∈ ps, p.length = r := fun p hp => (h p hp).1
  have h2 : ∀ w ∈ ps.flatten, w.length = m := by
    intro w hw
    obtain ⟨p, hp, hw⟩ := List.mem_flatten.mp hw
    exact ((h p hp).2 w hw).1
  have h3 := chunk_flat h2
  rw [flat_len h1, ← digsOf_flat] at h3
  rw [h3, chunk_flat h1]
theorem restN_succ (q n : Int) : ∀ k, restN q n (k + 1) = restN q (n / q) k
  | 0 => rfl
  | k + 1 => by rw [restN, restN_succ q n k]; rfl
theorem digs_cons (q n : Int) : ∀ k, digs q n (k + 1) = (n % q) :: digs q (n / q) k
  | 0 => rfl
  | k + 1 => by
    rw [digs, digs_cons q n k, restN_succ]
    rfl
theorem snoc_ind {P : List Int → Prop} (h0 : P []) (h1 : ∀ xs x, P xs → P (xs ++ [x])) : ∀ n, ∀ xs : List Int, xs.length = n → P xs := by
  intro n
  induction n with
  | zero => intro xs h; rw [List.length_eq_zero_iff.mp h]; exact h0
  | succ n ih =>
    intro xs h
    have hne : xs ≠ [] := by intro h2; rw [h2] at h; cases h
    rw [← List.dropLast_concat_getLast hne]
    exact h1 _ _ (ih _ (by rw [List.length_dropLast]; omega))
theorem digs_numD {q : Int} (hq : 0 < q) (wd : List Int) (h : ∀ d ∈ wd, 0 ≤ d ∧ d < q) : (digs q (numD q wd) wd.length).reverse = wd := by
  revert h
  refine snoc_ind (P := fun wd => (∀ d ∈ wd, 0 ≤ d ∧ d < q) → (digs q (numD q wd) wd.length).reverse = wd) (fun _ => rfl) (fun w d ih h => ?_) _ wd rfl
  have hd := h d (by simp)
  have ih := ih fun x hx => h x (by simp [hx])
  rw [List.length_append, List.length_singleton, digs_cons, numD_snoc, List.reverse_cons]
  have e1 : (numD q w * q + d) % q = d := by
    rw [Int.add_comm, Int.add_mul_emod_self_right, Int.emod_eq_of_lt hd.1 hd.2]
  have e2 : (numD q w * q + d) / q = numD q w := by
    rw [Int.add_comm, Int.add_mul_ediv_right _ _ (by omega), Int.ediv_eq_zero_of_lt hd.1 hd.2, Int.zero_add]
  rw [e1, e2, ih]
theorem enc_len (q : Int) (m r : Nat) (ks : List Nat) : (enc q m r ks).length = (sz q * (ks.length + 1) + r * m - 1) / (r * m) := by
  unfold enc cutP
  rw [chunk_len, List.length_append, code_len, List.length_replicate, Nat.mul_succ, Nat.mul_comm (sz q)]
theorem zeros_of {zs : List Int} (h : zs.any (· != 0) = false) : zs = List.replicate zs.length 0 := by
  rw [List.eq_replicate_iff]
  refine ⟨rfl, fun z hz => ?_⟩
  rw [List.any_eq_false] at h
  simpa using h z hz
theorem ok_eq {q : Int} {m r : Nat} (hm : 1 ≤ m) (hr : 1 ≤ r) {ps : List (List (List Int))} (hps : Pts q m r ps) (ks : List Nat) (ht : (digsOf ps).take (sz q * ks.length) = code q ks) (hl : sz q * (ks.length + 1) ≤ (digsOf ps).length) : okP q m r ps ks = okL q m r ps ks := by
  unfold okP okL
  cases ha : ((digsOf ps).drop (sz q * ks.length)).any (· != 0) with
  | true => rfl
  | false =>
    simp only [Bool.not_false, Bool.true_and]
    congr 1
    refine propext ⟨fun h => ?_, fun h => ?_⟩
    · have hz := zeros_of ha
      have hdl := digsOf_len hps
      have hds := List.take_append_drop (sz q * ks.length) (digsOf ps)
      rw [ht, hz, List.length_drop] at hds
      rw [Nat.mul_succ] at hl
      have hcl := code_len q ks
      rw [Nat.mul_comm] at hcl
      have he : (code q ks ++ List.replicate (sz q) (0 : Int)).length = sz q * (ks.length + 1) := by
        rw [List.length_append, hcl, List.length_replicate, Nat.mul_succ]
      unfold enc cutP
      rw [he, ← h]
      have : code q ks ++ List.replicate (sz q) (0 : Int) ++ List.replicate (ps.length * (r * m) - sz q * (ks.length + 1)) 0 = digsOf ps := by
        rw [← hds, List.append_assoc, List.replicate_append_replicate, hdl, Nat.mul_succ]
        congr 2
        omega
      rw [this, chunk_pts hps]
    · have := congrArg List.length h
      rwa [enc_len] at this
theorem dec_eq {q : Int} (hq : q ∈ primes) {m r : Nat} (hm : 1 ≤ m) (hr : 1 ≤ r) {ps : List (List (List Int))} (hps : Pts q m r ps) : ∀ (n : Nat) (ks : List Nat), sz q * (ks.length + n) ≤ (digsOf ps).length → (digsOf ps).take (sz q * ks.length) = code q ks → dec q (digsOf ps) (okP q m r ps) n ks = dec q (digsOf ps) (okL q m r ps) n ks
  | 0, _, _, _ => rfl
  | n + 1, ks, hl, ht => by
    have hqb := prime_bd hq
    have hl1 : sz q * (ks.length + 1) ≤ (digsOf ps).length := Nat.le_trans (Nat.mul_le_mul_left _ (by omega)) hl
    have hwb := pts_nn hps
    unfold dec
    rw [ok_eq hm hr hps ks ht hl1]
    split
    · rfl
    · split
      · rfl
      · split
        · rfl
        · refine dec_eq hq hm hr hps n _ (by rw [List.length_append, List.length_singleton]; rwa [show ks.length + 1 + n = ks.length + (n + 1) by omega]) ?_
          have hwd : ∀ d ∈ ((digsOf ps).drop (sz q * ks.length)).take (sz q), 0 ≤ d ∧ d < q := fun d hd => hwb d (List.mem_of_mem_drop (List.mem_of_mem_take hd))
          have hv := numD_nonneg (q := q) (by omega) fun d hd => (hwd d hd).1
          rw [List.length_append, List.length_singleton, Nat.mul_succ, List.take_add, ht, code_snoc]
          congr 1
          have hlen : (((digsOf ps).drop (sz q * ks.length)).take (sz q)).length = sz q := by
            rw [List.length_take, List.length_drop]
            rw [Nat.mul_succ] at hl1
            omega
          have hd := digs_numD (q := q) (by omega) _ hwd
          rw [hlen] at hd
          unfold sgd
          rw [show ((((numD q (((digsOf ps).drop (sz q * ks.length)).take (sz q)) - 1).toNat + 1 : Nat)) : Int) = numD q (((digsOf ps).drop (sz q * ks.length)).take (sz q)) by omega, hd]
theorem res_eq {q : Int} (hq : q ∈ primes) {m r : Nat} (hm : 1 ≤ m) (hr : 1 ≤ r) {ps : List (List (List Int))} (hps : Pts q m r ps) : resP q m r ps = resL q m r ps := by
  unfold resP resL
  refine dec_eq hq hm hr hps _ [] ?_ ?_
  · rw [List.length_nil, Nat.zero_add, Nat.mul_comm]
    exact Nat.div_mul_le_self _ _
  · rw [List.length_nil, Nat.mul_zero]
    rfl
end K85
end

section
set_option maxRecDepth 100000
namespace K85
open Z
def alt (n : Nat) : List Int := (List.replicate n [(0 : Int), 1]).flatten
theorem res1 : resP 13 6 3 (enc 13 6 3 (List.replicate 400 0)) = .lt (List.replicate 400 0) := by kernel_rfl
theorem res2 : resP 13 6 3 (cutP 6 3 (alt 401 ++ [0, 0])) = .long := by kernel_rfl
theorem res3 : resP 13 6 3 (cutP 6 3 (alt 401)) = .long := by kernel_rfl
theorem res4 : resP 13 6 3 (cutP 6 3 (alt 400)) = .lt (List.replicate 400 0) := by kernel_rfl
theorem res5 : resP 13 6 3 (cutP 6 3 (alt 400 ++ [7, 6])) = .sign 400 := by kernel_rfl
end K85
end

section
set_option Elab.async false
set_option linter.all false
set_option maxRecDepth 100000
set_option maxHeartbeats 1000000
namespace K85
open Z
local macro_rules | `(tactic| walk_at "z1") => `(tactic| first
  | with_reducible refine wf_seq ?_
  | with_reducible refine wf_ret ?_
  | with_reducible refine wf_retN ?_
  | with_reducible refine wf_set ?_
  | with_reducible refine wf_if ?_
  | with_reducible refine wf_expr ?_
  | with_reducible refine wf_nil ?_
  | with_reducible refine wf_par ?_
  | with_reducible refine wf_put ?_
  | with_reducible refine wf_raise ?_
  | with_reducible refine wf_raiseF ?_
  | with_reducible refine wf_for ?_
  | with_reducible refine wf_brk ?_
  | with_reducible refine wf_cnt ?_
  | ((with_reducible refine wf_frzR (j := ?zj) (xs := ?zx) ?zv ?zg ?_); (case zv => exact rfl); (case zg => first | exact get_head | exact rfl))
  | ((with_reducible refine wf_frzD (x := ?zx) ?zv ?_); (case zv => exact rfl))
  | with_reducible refine wf_asg ?_
  | with_reducible refine wp_K ?_
  | ((with_reducible refine wp_var (w := ?zw) ?zv ?_); (case zv => exact rfl))
  | with_reducible refine wp_op ?_
  | with_reducible refine wp_un ?_
  | with_reducible refine wp_chain ?_
  | with_reducible refine wp_tru ?_
  | with_reducible refine wp_TB ?_
  | with_reducible refine wp_tAnd ?_
  | with_reducible refine wp_tOr ?_
  | with_reducible refine wp_tNot ?_
  | with_reducible refine wp_cAnd ?_
  | with_reducible refine wp_cOr ?_
  | with_reducible refine wp_cNot ?_
  | with_reducible refine wp_cIf ?_
  | with_reducible refine wp_aNil ?_
  | with_reducible refine wp_aCons ?_
  | with_reducible refine wp_aStar ?_
  | with_reducible refine wp_tup ?_
  | with_reducible refine wp_disp ?_
  | with_reducible refine wp_frz ?_
  | with_reducible refine wp_new ?_
  | with_reducible refine wp_done ?_
  | with_reducible refine wp_bi ?_
  | with_reducible refine wp_is ?_
  | with_reducible refine wp_list ?_
  | with_reducible refine wp_pNone ?_
  | with_reducible refine wp_pSome ?_
  | with_reducible refine wp_sl ?_
  | with_reducible refine wp_lSl ?_
  | with_reducible refine wp_rev ?_
  | with_reducible refine wp_lRev ?_
  | with_reducible refine wp_callP_ok ?_
  | with_reducible refine wp_callI ?_
  | with_reducible refine wp_strM ?_
  | with_reducible refine wp_append ?_
  | with_reducible refine wp_extend ?_
  | with_reducible refine wp_iVal ?_
  | with_reducible refine wp_rg1 ?_
  | with_reducible refine wp_rg2 ?_
  | with_reducible refine wp_rg3 ?_
  | with_reducible refine wp_enum ?_
  | with_reducible refine wp_lc ?_
  | with_reducible refine wp_lc2 ?_
  | with_reducible refine wp_fldO ?_
  | with_reducible refine wp_gNm ?_
  | with_reducible refine wp_gFld ?_
  | with_reducible refine wf_fld ?_
  | with_reducible refine wp_make ?_
  | with_reducible refine wp_doneO ?_
  | with_reducible refine wp_gEach ?_
  | with_reducible refine wp_gEach_nil ?_
  | with_reducible refine wp_gAll ?_
  | with_reducible refine wp_gAll_nil ?_
  | with_reducible refine wf_parT ?_
  | with_reducible refine wp_gTp ?_
  | with_reducible refine wp_ok ?_)
local macro_rules | `(tactic| walk_at "zr") => `(tactic| exact rfl)
local macro_rules | `(tactic| walk_at "zr") => `(tactic| ((with_reducible refine oMod_int ?_); first | with_reducible assumption | omega))
local macro_rules | `(tactic| walk_at "zr") => `(tactic| ((with_reducible refine oDiv_int ?_ ?_) <;> first | with_reducible assumption | omega))
local macro_rules | `(tactic| walk_at "zr") => `(tactic| ((with_reducible refine oMul_int ?_); first | with_reducible assumption | omega))
local macro_rules | `(tactic| walk_at "zr") => `(tactic| ((with_reducible refine bDivmod_int ?_ ?_) <;> first | with_reducible assumption | omega))
local macro_rules | `(tactic| walk_at "zr") => `(tactic| with_reducible exact rfl)
local macro_rules | `(tactic| walk_at "zr") => `(tactic| ((with_reducible refine atD_int ?_ ?_) <;> first | with_reducible assumption | omega))
local macro_rules | `(tactic| walk_at "zr") => `(tactic| ((with_reducible refine setD_int ?_ ?_) <;> first | with_reducible assumption | omega))
local macro_rules | `(tactic| walk_at "zr") => `(tactic| with_reducible exact bAll_fun _ _)
local macro_rules | `(tactic| walk_at "zr") => `(tactic| with_reducible exact bAny_fun _ _)
local macro_rules | `(tactic| walk_at "zc") => `(tactic| with_reducible assumption)
local macro_rules | `(tactic| walk_at "zl") => `(tactic| first
  | with_reducible exact rfl
  | with_reducible assumption
  | ((with_reducible refine okR_int ?_ ?_) <;> first | omega | (simp only [List.length_map]; omega))
  | ((with_reducible refine okR2 ?_ ?_ ?_ ?_) <;> first | omega | (simp only [List.length_map]; omega))
  | ((with_reducible refine okR3 ?_ ?_ ?_ ?_ ?_ ?_) <;> first | omega | decide | (simp only [List.length_map]; omega))
  | (simp only [List.length_map, List.length_append, List.length_cons, List.length_nil, List.length_replicate, List.length_reverse, LIM]; omega)
  | exact rfl
  | decide
  | fail)
local macro_rules | `(tactic| walk_at "zr") => `(tactic| with_reducible exact get_head)
local macro_rules | `(tactic| walk_at "zr") => `(tactic| ((with_reducible refine oMul_tup ?_ ?_ ?_) <;> first | omega | decide))
local macro_rules | `(tactic| walk_at "zr") => `(tactic| ((with_reducible refine oAdd_tup ?_); first | omega | (simp only [prep_len, List.length_map, List.length_append, List.length_cons, List.length_nil, List.length_reverse, List.length_replicate]; omega)))
local macro_rules | `(tactic| walk_at "zr") => `(tactic| ((with_reducible refine oAdd_lst ?_); first | omega | (simp only [prep_len, List.length_map, List.length_append, List.length_cons, List.length_nil, List.length_reverse, List.length_replicate]; omega)))
local macro_rules | `(tactic| walk_at "z2") => `(tactic| first
  | ((with_reducible refine Exists.intro ?za (Exists.intro ?zb (Exists.intro ?zc (Exists.intro ?zd (Exists.intro ?ze (And.intro ?z1 (And.intro ?z2 (And.intro ?z3 (And.intro ?z4 (And.intro ?z5 ?_)))))))))); (case z1 => exact rfl); (case z2 => exact rfl); (case z3 => exact rfl); (case z4 => exact rfl); (case z5 => walk_at "zr"))
  | ((with_reducible refine Exists.intro ?za (Exists.intro ?zb (Exists.intro ?zc (Exists.intro ?zd (And.intro ?z1 (And.intro ?z2 (And.intro ?z3 ?_))))))); (case z1 => exact rfl); (case z2 => walk_at "zr"); (case z3 => walk_at "zr"))
  | ((with_reducible refine Exists.intro ?za (Exists.intro ?zb (Exists.intro ?zc (And.intro ?z1 (And.intro ?z2 (And.intro ?z3 ?_)))))); (case z1 => exact rfl); (case z2 => exact rfl); (case z3 => walk_at "zr"))
  | ((with_reducible refine Exists.intro ?za (Exists.intro ?zb (And.intro ?z1 (And.intro ?z2 ?_)))); (case z1 => exact rfl); (case z2 => first | with_reducible assumption | walk_at "zc" | walk_at "zr"))
  | ((with_reducible refine Exists.intro ?za (And.intro ?z1 ?_)); (case z1 => first | exact rfl | ((with_reducible refine asDs_star (zs := ?zq) ?zh); (case zh => exact rfl))))
  | ((with_reducible refine Or.inl (Exists.intro ?za (Exists.intro ?zb (And.intro ?z1 (And.intro ?z2 ?_))))); (case z1 => exact rfl); (case z2 => exact rfl))
  | with_reducible refine And.intro (fun z => absurd z (by decide)) (fun _ => ?_)
  | with_reducible refine And.intro (fun _ => ?_) (fun z => absurd z (by decide))
  | (refine And.intro (fun hz => ?_) (fun hz => ?_) <;> try simp only [decide_eq_true_eq, decide_eq_false_iff_not, Bool.not_eq_true', Bool.not_eq_false', Int.not_le, Int.not_lt, eqv_int, beq_iff_eq, beq_eq_false_iff_ne, ne_eq, bne_iff_ne] at hz)
  | ((with_reducible refine And.intro ?z1 ?_); (case z1 => walk_at "zl"))
  | fail)
local macro_rules | `(tactic| walk_at "z") => `(tactic| repeat' ((first | walk_at "z1" | walk_at "z2"); try dsimp only [List.set_cons_zero, List.set_cons_succ, S.add, S.nil, S.put]; try simp only [setO_head, del_mk, delO_head, delO_nil]))
local macro_rules | `(tactic| walk_at "z0") => `(tactic| simp only [start, List.map_cons, List.map_nil, List.length_cons, List.length_nil, Nat.reduceAdd, Nat.reduceSub, Nat.zero_add, Nat.sub_self, List.replicate_zero, List.replicate_succ, List.cons_append, List.nil_append, List.append_nil])
local macro_rules | `(tactic| walk_at "zp") => `(tactic| ((with_reducible refine runP_w ?h1 ?h2); (case h1 => rfl)))
local macro_rules | `(tactic| walk_at "zp") => `(tactic| ((with_reducible refine runP_of ?h1 ?h2); (case h1 => rfl)))
local macro_rules | `(tactic| walk_at "zi") => `(tactic| ((with_reducible refine runI_w ?h1 ?h2); (case h1 => rfl)))
local macro_rules | `(tactic| walk_at "zs") => `(tactic| ((first | walk_at "z1" | walk_at "z2"); try dsimp only [List.set_cons_zero, List.set_cons_succ, S.add, S.nil, S.put]; try simp only [setO_head, del_mk, delO_head, delO_nil]))
local macro_rules | `(tactic| walk_at "zr") => `(tactic| ((with_reducible refine oMul_lst ?_ ?_ ?_) <;> first | omega | (simp only [prep_len, List.length_map, List.length_append, List.length_cons, List.length_nil, List.length_reverse, List.length_replicate]; omega)))
theorem view_get {s : S} {i : Nat} {xs : List D} (h : s.get i = some (.lst xs)) : view (.ref i) s = some (.lst xs) := by
  show (match s.get i with | some (.lst xs) => some (D.lst xs) | some (.dic ks xs) => some (D.dic ks xs) | _ => none) = _
  rw [h]
theorem view_put {s : S} {i : Nat} {u : O} {xs : List D} (h : s.get i = some u) : view (.ref i) (s.put i (.lst xs)) = some (.lst xs) := view_get (pget_put_same h)
local macro_rules | `(tactic| walk_at "ze") => `(tactic| first
  | exact rfl
  | with_reducible assumption
  | ((with_reducible refine view_get (xs := ?zxs) ?zhh); (case zhh => with_reducible assumption))
  | ((with_reducible refine view_put (u := ?zxs) ?zhh); (case zhh => with_reducible assumption))
  | ((with_reducible refine pget_put_same (u := ?zxs) ?zhh); (case zhh => with_reducible assumption))
  | fail)
local macro_rules | `(tactic| walk_at "z2") => `(tactic| first
  | ((with_reducible refine Exists.intro ?za (Exists.intro ?zb (Exists.intro ?zc (Exists.intro ?zd (Exists.intro ?ze (And.intro ?z1 (And.intro ?z2 (And.intro ?z3 (And.intro ?z4 (And.intro ?z5 ?_)))))))))); (case z1 => walk_at "ze"); (case z2 => walk_at "ze"); (case z3 => walk_at "ze"); (case z4 => walk_at "ze"); (case z5 => walk_at "zr"))
  | ((with_reducible refine Exists.intro ?za (Exists.intro ?zb (Exists.intro ?zc (Exists.intro ?zd (And.intro ?z1 (And.intro ?z2 (And.intro ?z3 ?_))))))); (case z1 => walk_at "ze"); (case z2 => walk_at "zr"); (case z3 => walk_at "zr"))
  | ((with_reducible refine Exists.intro ?za (Exists.intro ?zb (Exists.intro ?zc (And.intro ?z1 (And.intro ?z2 (And.intro ?z3 ?_)))))); (case z1 => walk_at "ze"); (case z2 => walk_at "ze"); (case z3 => walk_at "zr"))
  | ((with_reducible refine Exists.intro ?za (Exists.intro ?zb (And.intro ?z1 (And.intro ?z2 ?_)))); (case z1 => walk_at "ze"); (case z2 => first | with_reducible assumption | walk_at "zc" | walk_at "zr"))
  | ((with_reducible refine Exists.intro ?za (And.intro ?z1 ?_)); (case z1 => first | exact rfl | ((with_reducible refine asDs_star (zs := ?zq) ?zh); (case zh => exact rfl))))
  | ((with_reducible refine Or.inl (Exists.intro ?za (Exists.intro ?zb (And.intro ?z1 (And.intro ?z2 ?_))))); (case z1 => walk_at "ze"); (case z2 => walk_at "ze"))
  | with_reducible refine And.intro (fun z => absurd z (by decide)) (fun _ => ?_)
  | with_reducible refine And.intro (fun _ => ?_) (fun z => absurd z (by decide))
  | (refine And.intro (fun hz => ?_) (fun hz => ?_) <;> try simp only [decide_eq_true_eq, decide_eq_false_iff_not, Bool.not_eq_true', Bool.not_eq_false', Int.not_le, Int.not_lt, eqv_int, beq_iff_eq, beq_eq_false_iff_ne, ne_eq, bne_iff_ne] at hz)
  | ((with_reducible refine And.intro ?z1 ?_); (case z1 => walk_at "zl"))
  | fail)
local macro_rules | `(tactic| walk_at "z") => `(tactic| repeat' ((first | walk_at "z1" | walk_at "z2"); try dsimp only [List.set_cons_zero, List.set_cons_succ]))
local macro_rules | `(tactic| walk_at "zs") => `(tactic| ((first | walk_at "z1" | walk_at "z2"); try dsimp only [List.set_cons_zero, List.set_cons_succ]))
local macro_rules | `(tactic| walk_at "zc") => `(tactic| with_reducible exact is_whole_int _)
local macro_rules | `(tactic| walk_at "zc") => `(tactic| with_reducible exact is_within_int _ _ _)
local macro_rules | `(tactic| walk_at "zc") => `(tactic| (with_reducible refine size_in_ok ?_; with_reducible assumption))
local macro_rules | `(tactic| walk_at "zc") => `(tactic| (with_reducible refine lt_size_ok ?_; with_reducible assumption))
local macro_rules | `(tactic| walk_at "zc") => `(tactic| (with_reducible refine require_base_ok ?_; with_reducible assumption))
local macro_rules | `(tactic| walk_at "zc") => `(tactic| (with_reducible refine sign_size_ok ?_; with_reducible assumption))
local macro_rules | `(tactic| walk_at "zc") => `(tactic| ((with_reducible refine require_rows_ok ?_ ?_) <;> omega))
local macro_rules | `(tactic| walk_at "zc") => `(tactic| ((with_reducible refine digits_in_ok ?_ ?_ ?_) <;> omega))
local macro_rules | `(tactic| walk_at "zc") => `(tactic| ((with_reducible refine lt_digits_ok ?_ ?_ ?_) <;> omega))
local macro_rules | `(tactic| walk_at "zc") => `(tactic| ((with_reducible refine number_of_digits_ok ?_ ?_ _) <;> omega))
local macro_rules | `(tactic| walk_at "zc") => `(tactic| ((with_reducible refine many_parts_ok ?_ ?_ ?_ ?_ ?_ ?_) <;> first | with_reducible assumption | omega))
local macro_rules | `(tactic| walk_at "zc") => `(tactic| with_reducible exact lt_signs_ok)
local macro_rules | `(tactic| walk_at "zr") => `(tactic| ((with_reducible refine kIndex_sgT ?_ ?_) <;> first | with_reducible assumption | exact rfl))
local macro_rules | `(tactic| walk_at "zc") => `(tactic| ((with_reducible refine require_letter_ok _ ?_ ?_) <;> first | with_reducible assumption | omega))
local macro_rules | `(tactic| walk_at "zc") => `(tactic| ((with_reducible refine parts_in_ok ?_ ?_ ?_ ?_ ?_ _ ?_ ?_) <;> first | with_reducible assumption | omega))
local macro_rules | `(tactic| walk_at "zc") => `(tactic| ((with_reducible refine lt_parts_ok ?_ ?_ ?_ ?_ ?_ _ ?_ ?_) <;> first | with_reducible assumption | omega))
local macro_rules | `(tactic| walk_at "zc") => `(tactic| ((with_reducible refine parts_of_ok ?_ ?_ ?_ ?_ ?_ _ ?_ ?_) <;> first | with_reducible assumption | omega))
local macro_rules | `(tactic| walk_at "zr") => `(tactic| ((with_reducible refine idx_sg ?_ ?_ ?_) <;> first | omega | exact rfl))
local macro_rules | `(tactic| walk_at "zr") => `(tactic| with_reducible assumption)
local macro_rules | `(tactic| walk_at "zc") => `(tactic| (with_reducible refine joined_ok _ ?_; omega))
local macro_rules | `(tactic| walk_at "zr") => `(tactic| with_reducible exact oEq_parts _ _)
def Ok (i : Nat) (s : S) : Prop := i < s.nx ∧ ∃ a b c : Int, s.get i = some (.lst [.int a, .int b, .int c])
theorem ok_sweep {i n : Nat} {s : S} {w : W} (h : s.nx = n ∨ n ≤ s.nx) (hi : i < n) (h2 : ∃ a b c : Int, s.get i = some (.lst [.int a, .int b, .int c])) : Ok i (s.sweep n w) := by
  refine ⟨?_, ?_⟩
  · show i < s.nx
    omega
  · rw [get_keep hi]
    exact h2
theorem spin_w {i : Nat} {s : S} (h : Ok i s) {t : Int} (ht : 0 < t) (ht2 : t < 1152921504606846976) {Q : W → S → Prop} {E : Exn → S → Prop} (hQ : ∀ v s', 0 ≤ v → v < t → Ok i s' → s'.nx = s.nx → Q (.d (.int v)) s') : wp (F__law_spin [.ref i, .d (.int t)] s) Q E := by
  obtain ⟨hi, a, b, c, hg⟩ := h
  unfold F__law_spin
  walk_at "zi"
  unfold f__law_spin
  walk_at "z0"
  walk_at "z"
  · exact hQ _ _ (Int.emod_nonneg _ (by omega)) (Int.emod_lt_of_pos _ ht) ⟨hi, _, _, _, (get_keep hi).trans (pget_put_same hg)⟩ rfl
  · exact hQ _ _ (Int.emod_nonneg _ (by omega)) (Int.emod_lt_of_pos _ ht) ⟨hi, _, _, _, (get_keep hi).trans (pget_put_same hg)⟩ rfl
/-- a call of spin: the argument is a number -/
theorem c_spin {i : Nat} {s : S} (h : Ok i s) {g : CA} {e : Env} {t : Int} (ht : 0 < t) (ht2 : t < 1152921504606846976) {Q : W → S → Prop} {E : Exn → S → Prop} (hg : wp (g e s) (fun ws s1 => ws = [.ref i, .d (.int t)] ∧ s1 = s) E) (hQ : ∀ v s', 0 ≤ v → v < t → Ok i s' → s'.nx = s.nx → Q (.d (.int v)) s') : wp (cCallI F__law_spin g e s) Q E := by
  refine wp_callI (wp_mono hg (fun ws s1 hw => ?_) fun _ _ h => h)
  obtain ⟨rfl, rfl⟩ := hw
  exact spin_w h ht ht2 hQ
theorem among_w {i : Nat} {s : S} (h : Ok i s) {xs : List D} (hx : xs ≠ []) (hl : xs.length < 1000000) {Q : W → S → Prop} {E : Exn → S → Prop} (hQ : ∀ v s', v ∈ xs → Ok i s' → s'.nx = s.nx → Q (.d v) s') : wp (F__law_among [.ref i, .d (.lst xs)] s) Q E := by
  have h0 : 0 < xs.length := List.length_pos_iff.mpr hx
  unfold F__law_among
  walk_at "zi"
  unfold f__law_among
  walk_at "z0"
  refine wf_ret (wp_op ?_)
  walk_at "z1"
  refine c_spin h (t := xs.length) (by omega) (by omega) ?_ fun v s' h1 h2 h3 h4 => ?_
  · walk_at "z"
  · have hv : v.toNat < xs.length := by omega
    refine ⟨_, _, xs[v.toNat], rfl, rfl, ?_, ?_⟩
    · show atD xs v = _
      unfold atD
      rw [if_pos h1, List.getElem?_eq_getElem hv]
    · refine hQ _ _ (List.getElem_mem hv) ⟨?_, ?_⟩ h4
      · have := h3.1
        exact this
      · obtain ⟨a, b, c, h5⟩ := h3.2
        exact ⟨a, b, c, (get_keep h.1).trans h5⟩
def Letter (n : Nat) (x : D) : Prop := ∃ ks : List Nat, ks.length ≤ n ∧ (∀ k ∈ ks, k < 43) ∧ x = letD ks
theorem sweep_ok {i : Nat} {s s' : S} {w : W} (h : Ok i s) (h' : Ok i s') (hn : s'.nx = s.nx) : Ok i (s'.sweep s.nx w) := by
  refine ⟨h'.1, ?_⟩
  obtain ⟨a, b, c, h5⟩ := h'.2
  exact ⟨a, b, c, (get_keep h.1).trans h5⟩
theorem tx2_sg : tx2 = (List.range 43).map sg := by decide
theorem letter_w {i : Nat} {s : S} (h : Ok i s) {n : Nat} (hn : n < 100) {Q : W → S → Prop} {E : Exn → S → Prop} (hQ : ∀ ks s', ks.length ≤ n → (∀ k ∈ ks, k < 43) → Ok i s' → s'.nx = s.nx → Q (.d (letD ks)) s') : wp (F__law_lt_letter [.ref i, .d (.int n)] s) Q E := by
  unfold F__law_lt_letter
  walk_at "zi"
  unfold f__law_lt_letter
  walk_at "z0"
  iterate 7 (walk_at "zs")
  refine wp_rg1 (c_spin h (t := (n : Int) + 1) (by omega) (by omega) ?_ fun v s1 h1 h2 h3 h4 => ?_)
  · walk_at "z"
  · refine ⟨_, rfl, okR_int (by omega) (by omega), _, rfl, ?_⟩
    refine wp_mono (wp_lcAll (fun pre ys s' => ∃ ks : List Nat, ys = sgs ks ∧ ks.length = pre.length ∧ (∀ k ∈ ks, k < 43) ∧ Ok i s' ∧ s'.nx = s.nx) (rangeL 0 v.toNat) [] [] s1 ⟨[], rfl, rfl, by simp, h3, h4⟩ (fun pre ys x s2 hI hx => ?_)) (fun ys s2 hI => ?_) fun _ _ h => h
    · obtain ⟨ks, rfl, hl, hk, ho, hn2⟩ := hI
      iterate 3 (walk_at "zs")
      iterate 11 (walk_at "zs")
      refine among_w ho (by simp [tx2]) (by rw [List.length_map, tx2_len]; omega) fun v s' hv ho' hn' => ?_
      obtain ⟨c, hc, rfl⟩ := List.mem_map.mp hv
      rw [tx2_sg] at hc
      obtain ⟨k, hk2, rfl⟩ := List.mem_map.mp hc
      refine ⟨_, rfl, ks ++ [k], by rw [sgs_snoc], by rw [List.length_append, List.length_append, hl]; rfl, ?_, ho', by rw [hn', hn2]⟩
      intro j hj
      rw [List.mem_append, List.mem_singleton] at hj
      rcases hj with hj | rfl
      · exact hk j hj
      · exact List.mem_range.mp hk2
    · obtain ⟨ks, rfl, hl, hk, ho, hn2⟩ := hI
      rw [List.nil_append] at hl
      rw [rangeL_len] at hl
      refine ⟨by simp only [sgs, List.length_map, LIM]; omega, ?_⟩
      walk_at "z"
      refine ⟨_, _, rfl, kJoin_sgs (by omega), ?_⟩
      exact hQ _ _ (by omega) hk (sweep_ok h ho hn2) hn2
end K85
end

section
set_option Elab.async false
set_option linter.all false
set_option maxRecDepth 100000
set_option maxHeartbeats 1000000
namespace K85
open Z
local macro_rules | `(tactic| walk_at "z1") => `(tactic| first
  | with_reducible refine wf_seq ?_
  | with_reducible refine wf_ret ?_
  | with_reducible refine wf_retN ?_
  | with_reducible refine wf_set ?_
  | with_reducible refine wf_if ?_
  | with_reducible refine wf_expr ?_
  | with_reducible refine wf_nil ?_
  | with_reducible refine wf_par ?_
  | with_reducible refine wf_put ?_
  | with_reducible refine wf_raise ?_
  | with_reducible refine wf_raiseF ?_
  | with_reducible refine wf_for ?_
  | with_reducible refine wf_brk ?_
  | with_reducible refine wf_cnt ?_
  | ((with_reducible refine wf_frzR (j := ?zj) (xs := ?zx) ?zv ?zg ?_); (case zv => exact rfl); (case zg => first | exact get_head | exact rfl))
  | ((with_reducible refine wf_frzD (x := ?zx) ?zv ?_); (case zv => exact rfl))
  | with_reducible refine wf_asg ?_
  | with_reducible refine wp_K ?_
  | ((with_reducible refine wp_var (w := ?zw) ?zv ?_); (case zv => exact rfl))
  | with_reducible refine wp_op ?_
  | with_reducible refine wp_un ?_
  | with_reducible refine wp_chain ?_
  | with_reducible refine wp_tru ?_
  | with_reducible refine wp_TB ?_
  | with_reducible refine wp_tAnd ?_
  | with_reducible refine wp_tOr ?_
  | with_reducible refine wp_tNot ?_
  | with_reducible refine wp_cAnd ?_
  | with_reducible refine wp_cOr ?_
  | with_reducible refine wp_cNot ?_
  | with_reducible refine wp_cIf ?_
  | with_reducible refine wp_aNil ?_
  | with_reducible refine wp_aCons ?_
  | with_reducible refine wp_aStar ?_
  | with_reducible refine wp_tup ?_
  | with_reducible refine wp_disp ?_
  | with_reducible refine wp_frz ?_
  | with_reducible refine wp_new ?_
  | with_reducible refine wp_done ?_
  | with_reducible refine wp_bi ?_
  | with_reducible refine wp_is ?_
  | with_reducible refine wp_list ?_
  | with_reducible refine wp_pNone ?_
  | with_reducible refine wp_pSome ?_
  | with_reducible refine wp_sl ?_
  | with_reducible refine wp_lSl ?_
  | with_reducible refine wp_rev ?_
  | with_reducible refine wp_lRev ?_
  | with_reducible refine wp_callP_ok ?_
  | with_reducible refine wp_callI ?_
  | with_reducible refine wp_strM ?_
  | with_reducible refine wp_append ?_
  | with_reducible refine wp_extend ?_
  | with_reducible refine wp_iVal ?_
  | with_reducible refine wp_rg1 ?_
  | with_reducible refine wp_rg2 ?_
  | with_reducible refine wp_rg3 ?_
  | with_reducible refine wp_enum ?_
  | with_reducible refine wp_lc ?_
  | with_reducible refine wp_lc2 ?_
  | with_reducible refine wp_fldO ?_
  | with_reducible refine wp_gNm ?_
  | with_reducible refine wp_gFld ?_
  | with_reducible refine wf_fld ?_
  | with_reducible refine wp_make ?_
  | with_reducible refine wp_doneO ?_
  | with_reducible refine wp_gEach ?_
  | with_reducible refine wp_gEach_nil ?_
  | with_reducible refine wp_gAll ?_
  | with_reducible refine wp_gAll_nil ?_
  | with_reducible refine wf_parT ?_
  | with_reducible refine wp_gTp ?_
  | with_reducible refine wp_ok ?_)
local macro_rules | `(tactic| walk_at "zr") => `(tactic| exact rfl)
local macro_rules | `(tactic| walk_at "zr") => `(tactic| ((with_reducible refine oMod_int ?_); first | with_reducible assumption | omega))
local macro_rules | `(tactic| walk_at "zr") => `(tactic| ((with_reducible refine oDiv_int ?_ ?_) <;> first | with_reducible assumption | omega))
local macro_rules | `(tactic| walk_at "zr") => `(tactic| ((with_reducible refine oMul_int ?_); first | with_reducible assumption | omega))
local macro_rules | `(tactic| walk_at "zr") => `(tactic| ((with_reducible refine bDivmod_int ?_ ?_) <;> first | with_reducible assumption | omega))
local macro_rules | `(tactic| walk_at "zr") => `(tactic| with_reducible exact rfl)
local macro_rules | `(tactic| walk_at "zr") => `(tactic| ((with_reducible refine atD_int ?_ ?_) <;> first | with_reducible assumption | omega))
local macro_rules | `(tactic| walk_at "zr") => `(tactic| ((with_reducible refine setD_int ?_ ?_) <;> first | with_reducible assumption | omega))
local macro_rules | `(tactic| walk_at "zr") => `(tactic| with_reducible exact bAll_fun _ _)
local macro_rules | `(tactic| walk_at "zr") => `(tactic| with_reducible exact bAny_fun _ _)
local macro_rules | `(tactic| walk_at "zc") => `(tactic| with_reducible assumption)
local macro_rules | `(tactic| walk_at "zl") => `(tactic| first
  | with_reducible exact rfl
  | with_reducible assumption
  | ((with_reducible refine okR_int ?_ ?_) <;> first | omega | (simp only [List.length_map]; omega))
  | ((with_reducible refine okR2 ?_ ?_ ?_ ?_) <;> first | omega | (simp only [List.length_map]; omega))
  | ((with_reducible refine okR3 ?_ ?_ ?_ ?_ ?_ ?_) <;> first | omega | decide | (simp only [List.length_map]; omega))
  | (simp only [List.length_map, List.length_append, List.length_cons, List.length_nil, List.length_replicate, List.length_reverse, LIM]; omega)
  | exact rfl
  | decide
  | fail)
local macro_rules | `(tactic| walk_at "zr") => `(tactic| with_reducible exact get_head)
local macro_rules | `(tactic| walk_at "zr") => `(tactic| ((with_reducible refine oMul_tup ?_ ?_ ?_) <;> first | omega | decide))
local macro_rules | `(tactic| walk_at "zr") => `(tactic| ((with_reducible refine oAdd_tup ?_); first | omega | (simp only [prep_len, List.length_map, List.length_append, List.length_cons, List.length_nil, List.length_reverse, List.length_replicate]; omega)))
local macro_rules | `(tactic| walk_at "zr") => `(tactic| ((with_reducible refine oAdd_lst ?_); first | omega | (simp only [prep_len, List.length_map, List.length_append, List.length_cons, List.length_nil, List.length_reverse, List.length_replicate]; omega)))
local macro_rules | `(tactic| walk_at "z2") => `(tactic| first
  | ((with_reducible refine Exists.intro ?za (Exists.intro ?zb (Exists.intro ?zc (Exists.intro ?zd (Exists.intro ?ze (And.intro ?z1 (And.intro ?z2 (And.intro ?z3 (And.intro ?z4 (And.intro ?z5 ?_)))))))))); (case z1 => exact rfl); (case z2 => exact rfl); (case z3 => exact rfl); (case z4 => exact rfl); (case z5 => walk_at "zr"))
  | ((with_reducible refine Exists.intro ?za (Exists.intro ?zb (Exists.intro ?zc (Exists.intro ?zd (And.intro ?z1 (And.intro ?z2 (And.intro ?z3 ?_))))))); (case z1 => exact rfl); (case z2 => walk_at "zr"); (case z3 => walk_at "zr"))
  | ((with_reducible refine Exists.intro ?za (Exists.intro ?zb (Exists.intro ?zc (And.intro ?z1 (And.intro ?z2 (And.intro ?z3 ?_)))))); (case z1 => exact rfl); (case z2 => exact rfl); (case z3 => walk_at "zr"))
  | ((with_reducible refine Exists.intro ?za (Exists.intro ?zb (And.intro ?z1 (And.intro ?z2 ?_)))); (case z1 => exact rfl); (case z2 => first | with_reducible assumption | walk_at "zc" | walk_at "zr"))
  | ((with_reducible refine Exists.intro ?za (And.intro ?z1 ?_)); (case z1 => first | exact rfl | ((with_reducible refine asDs_star (zs := ?zq) ?zh); (case zh => exact rfl))))
  | ((with_reducible refine Or.inl (Exists.intro ?za (Exists.intro ?zb (And.intro ?z1 (And.intro ?z2 ?_))))); (case z1 => exact rfl); (case z2 => exact rfl))
  | with_reducible refine And.intro (fun z => absurd z (by decide)) (fun _ => ?_)
  | with_reducible refine And.intro (fun _ => ?_) (fun z => absurd z (by decide))
  | (refine And.intro (fun hz => ?_) (fun hz => ?_) <;> try simp only [decide_eq_true_eq, decide_eq_false_iff_not, Bool.not_eq_true', Bool.not_eq_false', Int.not_le, Int.not_lt, eqv_int, beq_iff_eq, beq_eq_false_iff_ne, ne_eq, bne_iff_ne] at hz)
  | ((with_reducible refine And.intro ?z1 ?_); (case z1 => walk_at "zl"))
  | fail)
local macro_rules | `(tactic| walk_at "z") => `(tactic| repeat' ((first | walk_at "z1" | walk_at "z2"); try dsimp only [List.set_cons_zero, List.set_cons_succ, S.add, S.nil, S.put]; try simp only [setO_head, del_mk, delO_head, delO_nil]))
local macro_rules | `(tactic| walk_at "z0") => `(tactic| simp only [start, List.map_cons, List.map_nil, List.length_cons, List.length_nil, Nat.reduceAdd, Nat.reduceSub, Nat.zero_add, Nat.sub_self, List.replicate_zero, List.replicate_succ, List.cons_append, List.nil_append, List.append_nil])
local macro_rules | `(tactic| walk_at "zp") => `(tactic| ((with_reducible refine runP_w ?h1 ?h2); (case h1 => rfl)))
local macro_rules | `(tactic| walk_at "zp") => `(tactic| ((with_reducible refine runP_of ?h1 ?h2); (case h1 => rfl)))
local macro_rules | `(tactic| walk_at "zi") => `(tactic| ((with_reducible refine runI_w ?h1 ?h2); (case h1 => rfl)))
local macro_rules | `(tactic| walk_at "zs") => `(tactic| ((first | walk_at "z1" | walk_at "z2"); try dsimp only [List.set_cons_zero, List.set_cons_succ, S.add, S.nil, S.put]; try simp only [setO_head, del_mk, delO_head, delO_nil]))
local macro_rules | `(tactic| walk_at "zr") => `(tactic| ((with_reducible refine oMul_lst ?_ ?_ ?_) <;> first | omega | (simp only [prep_len, List.length_map, List.length_append, List.length_cons, List.length_nil, List.length_reverse, List.length_replicate]; omega)))
local macro_rules | `(tactic| walk_at "ze") => `(tactic| first
  | exact rfl
  | with_reducible assumption
  | ((with_reducible refine view_get (xs := ?zxs) ?zhh); (case zhh => with_reducible assumption))
  | ((with_reducible refine view_put (u := ?zxs) ?zhh); (case zhh => with_reducible assumption))
  | ((with_reducible refine pget_put_same (u := ?zxs) ?zhh); (case zhh => with_reducible assumption))
  | fail)
local macro_rules | `(tactic| walk_at "z2") => `(tactic| first
  | ((with_reducible refine Exists.intro ?za (Exists.intro ?zb (Exists.intro ?zc (Exists.intro ?zd (Exists.intro ?ze (And.intro ?z1 (And.intro ?z2 (And.intro ?z3 (And.intro ?z4 (And.intro ?z5 ?_)))))))))); (case z1 => walk_at "ze"); (case z2 => walk_at "ze"); (case z3 => walk_at "ze"); (case z4 => walk_at "ze"); (case z5 => walk_at "zr"))
  | ((with_reducible refine Exists.intro ?za (Exists.intro ?zb (Exists.intro ?zc (Exists.intro ?zd (And.intro ?z1 (And.intro ?z2 (And.intro ?z3 ?_))))))); (case z1 => walk_at "ze"); (case z2 => walk_at "zr"); (case z3 => walk_at "zr"))
  | ((with_reducible refine Exists.intro ?za (Exists.intro ?zb (Exists.intro ?zc (And.intro ?z1 (And.intro ?z2 (And.intro ?z3 ?_)))))); (case z1 => walk_at "ze"); (case z2 => walk_at "ze"); (case z3 => walk_at "zr"))
  | ((with_reducible refine Exists.intro ?za (Exists.intro ?zb (And.intro ?z1 (And.intro ?z2 ?_)))); (case z1 => walk_at "ze"); (case z2 => first | with_reducible assumption | walk_at "zc" | walk_at "zr"))
  | ((with_reducible refine Exists.intro ?za (And.intro ?z1 ?_)); (case z1 => first | exact rfl | ((with_reducible refine asDs_star (zs := ?zq) ?zh); (case zh => exact rfl))))
  | ((with_reducible refine Or.inl (Exists.intro ?za (Exists.intro ?zb (And.intro ?z1 (And.intro ?z2 ?_))))); (case z1 => walk_at "ze"); (case z2 => walk_at "ze"))
  | with_reducible refine And.intro (fun z => absurd z (by decide)) (fun _ => ?_)
  | with_reducible refine And.intro (fun _ => ?_) (fun z => absurd z (by decide))
  | (refine And.intro (fun hz => ?_) (fun hz => ?_) <;> try simp only [decide_eq_true_eq, decide_eq_false_iff_not, Bool.not_eq_true', Bool.not_eq_false', Int.not_le, Int.not_lt, eqv_int, beq_iff_eq, beq_eq_false_iff_ne, ne_eq, bne_iff_ne] at hz)
  | ((with_reducible refine And.intro ?z1 ?_); (case z1 => walk_at "zl"))
  | fail)
local macro_rules | `(tactic| walk_at "z") => `(tactic| repeat' ((first | walk_at "z1" | walk_at "z2"); try dsimp only [List.set_cons_zero, List.set_cons_succ]))
local macro_rules | `(tactic| walk_at "zs") => `(tactic| ((first | walk_at "z1" | walk_at "z2"); try dsimp only [List.set_cons_zero, List.set_cons_succ]))
local macro_rules | `(tactic| walk_at "zc") => `(tactic| with_reducible exact is_whole_int _)
local macro_rules | `(tactic| walk_at "zc") => `(tactic| with_reducible exact is_within_int _ _ _)
local macro_rules | `(tactic| walk_at "zc") => `(tactic| (with_reducible refine size_in_ok ?_; with_reducible assumption))
local macro_rules | `(tactic| walk_at "zc") => `(tactic| (with_reducible refine lt_size_ok ?_; with_reducible assumption))
local macro_rules | `(tactic| walk_at "zc") => `(tactic| (with_reducible refine require_base_ok ?_; with_reducible assumption))
local macro_rules | `(tactic| walk_at "zc") => `(tactic| (with_reducible refine sign_size_ok ?_; with_reducible assumption))
local macro_rules | `(tactic| walk_at "zc") => `(tactic| ((with_reducible refine require_rows_ok ?_ ?_) <;> omega))
local macro_rules | `(tactic| walk_at "zc") => `(tactic| ((with_reducible refine digits_in_ok ?_ ?_ ?_) <;> omega))
local macro_rules | `(tactic| walk_at "zc") => `(tactic| ((with_reducible refine lt_digits_ok ?_ ?_ ?_) <;> omega))
local macro_rules | `(tactic| walk_at "zc") => `(tactic| ((with_reducible refine number_of_digits_ok ?_ ?_ _) <;> omega))
local macro_rules | `(tactic| walk_at "zc") => `(tactic| ((with_reducible refine many_parts_ok ?_ ?_ ?_ ?_ ?_ ?_) <;> first | with_reducible assumption | omega))
local macro_rules | `(tactic| walk_at "zc") => `(tactic| with_reducible exact lt_signs_ok)
local macro_rules | `(tactic| walk_at "zr") => `(tactic| ((with_reducible refine kIndex_sgT ?_ ?_) <;> first | with_reducible assumption | exact rfl))
local macro_rules | `(tactic| walk_at "zc") => `(tactic| ((with_reducible refine require_letter_ok _ ?_ ?_) <;> first | with_reducible assumption | omega))
local macro_rules | `(tactic| walk_at "zc") => `(tactic| ((with_reducible refine parts_in_ok ?_ ?_ ?_ ?_ ?_ _ ?_ ?_) <;> first | with_reducible assumption | omega))
local macro_rules | `(tactic| walk_at "zc") => `(tactic| ((with_reducible refine lt_parts_ok ?_ ?_ ?_ ?_ ?_ _ ?_ ?_) <;> first | with_reducible assumption | omega))
local macro_rules | `(tactic| walk_at "zc") => `(tactic| ((with_reducible refine parts_of_ok ?_ ?_ ?_ ?_ ?_ _ ?_ ?_) <;> first | with_reducible assumption | omega))
local macro_rules | `(tactic| walk_at "zr") => `(tactic| ((with_reducible refine idx_sg ?_ ?_ ?_) <;> first | omega | exact rfl))
local macro_rules | `(tactic| walk_at "zr") => `(tactic| with_reducible assumption)
local macro_rules | `(tactic| walk_at "zc") => `(tactic| (with_reducible refine joined_ok _ ?_; omega))
local macro_rules | `(tactic| walk_at "zr") => `(tactic| with_reducible exact oEq_parts _ _)
local macro_rules | `(tactic| walk_at "zr") => `(tactic| ((with_reducible refine oMul_tup ?_ ?_ ?_) <;> first | omega | (simp only [List.length_cons, List.length_nil]; omega)))
theorem rep_word (m : Nat) : D.tup (rep m [D.int 0]) = wordD (List.replicate m 0) := by rw [rep_zero]; rfl
theorem law_zero_ok {q : Int} {m : Nat} (hm2 : m ≤ 6) : F__law_zero [.tup [.int q, .int m, .tup []]] = .ok (wordD (List.replicate m 0)) := by
  rw [← rep_word]
  unfold F__law_zero
  walk_at "zp"
  unfold f__law_zero
  walk_at "z0"
  walk_at "z"
  rfl
theorem law_one_ok {q : Int} {m : Nat} (hm : 1 ≤ m) (hm2 : m ≤ 6) : F__law_one [.tup [.int q, .int m, .tup []]] = .ok (wordD (1 :: List.replicate (m - 1) 0)) := by
  have e : wordD (1 :: List.replicate (m - 1) 0) = D.tup ([D.int 1] ++ rep ((m : Int) - 1).toNat [D.int 0]) := by
    rw [show ((m : Int) - 1).toNat = m - 1 by omega, rep_zero]
    rfl
  rw [e]
  unfold F__law_one
  walk_at "zp"
  unfold f__law_one
  walk_at "z0"
  walk_at "z"
  rfl
theorem word_w {i : Nat} {s : S} (h : Ok i s) {q : Int} (hq : q ∈ primes) {m : Nat} (hm : 1 ≤ m) (hm2 : m ≤ 6) {Q : W → S → Prop} {E : Exn → S → Prop} (hQ : ∀ w s', Wd1 q m w → Ok i s' → s'.nx = s.nx → Q (.d (wordD w)) s') : wp (F__law_word [.ref i, .d (.tup [.int q, .int m, .tup []])] s) Q E := by
  have hqb := prime_bd hq
  have hz : Wd1 q m (List.replicate m 0) := ⟨List.length_replicate, fun d hd => by rw [(List.mem_replicate.mp hd).2]; omega⟩
  have ho : Wd1 q m (1 :: List.replicate (m - 1) 0) := ⟨by rw [List.length_cons, List.length_replicate]; omega, fun d hd => by
    rcases List.mem_cons.mp hd with rfl | hd
    · omega
    · rw [(List.mem_replicate.mp hd).2]; omega⟩
  have hz1 := law_zero_ok (q := q) hm2
  have ho1 := law_one_ok (q := q) hm hm2
  unfold F__law_word
  walk_at "zi"
  unfold f__law_word
  walk_at "z0"
  refine wf_seq (wf_set ?_)
  refine c_spin h (t := 6) (by omega) (by omega) (by walk_at "z") fun v s1 h1 h2 h3 h4 => ?_
  walk_at "z"
  · exact hQ _ _ hz (sweep_ok h h3 h4) h4
  · exact hQ _ _ ho (sweep_ok h h3 h4) h4
  · refine wp_mono (wp_lcAll (fun pre ys s' => ∃ ds : List Int, ys = ds.map D.int ∧ ds.length = pre.length ∧ (∀ d ∈ ds, 0 ≤ d ∧ d < q) ∧ Ok i s' ∧ s'.nx = s.nx) (rangeL 0 ((m : Int)).toNat) [] [] s1 ⟨[], rfl, rfl, by simp, h3, h4⟩ (fun pre ys x s2 hI hx => ?_)) (fun ys s2 hI => ?_) fun _ _ h => h
    · obtain ⟨ds, rfl, hl, hk, ho, hn2⟩ := hI
      iterate 2 (walk_at "zs")
      refine c_spin ho (t := q) (by omega) (by omega) (by walk_at "z") fun v s' h1 h2 h3 h4 => ?_
      refine ⟨_, rfl, ds ++ [v], by rw [List.map_append]; rfl, by rw [List.length_append, List.length_append, hl]; rfl, ?_, h3, by rw [h4, hn2]⟩
      intro j hj
      rw [List.mem_append, List.mem_singleton] at hj
      rcases hj with hj | rfl
      · exact hk j hj
      · exact ⟨h1, h2⟩
    · obtain ⟨ds, rfl, hl, hk, ho, hn2⟩ := hI
      rw [List.nil_append, rangeL_len] at hl
      refine ⟨by simp only [List.length_map, LIM]; omega, ?_⟩
      walk_at "z"
      exact hQ ds _ ⟨by omega, hk⟩ (sweep_ok h ho hn2) hn2
def GL (q : Int) (m r n : Nat) (xs : List D) : Prop := ∃ ps, xs = ps.map partD ∧ Pts q m r ps ∧ ps.length ≤ n
theorem gl_cut {q : Int} {m r n : Nat} {xs : List D} (h : GL q m r n xs) (a b : Option Int) : GL q m r n (cutD xs a b) := by
  obtain ⟨ps, rfl, h1, h2⟩ := h
  refine ⟨cutD ps a b, cutD_map _ _ _ _, fun p hp => h1 p ?_, Nat.le_trans (cutD_len _ _ _) h2⟩
  unfold cutD at hp
  exact List.mem_of_mem_drop (List.mem_of_mem_take hp)
theorem gl_app {q : Int} {m r n k : Nat} {xs ys : List D} (h : GL q m r n xs) (h' : GL q m r k ys) : GL q m r (n + k) (xs ++ ys) := by
  obtain ⟨ps, rfl, h1, h2⟩ := h
  obtain ⟨ps', rfl, h3, h4⟩ := h'
  refine ⟨ps ++ ps', by rw [List.map_append], fun p hp => ?_, by rw [List.length_append]; omega⟩
  rcases List.mem_append.mp hp with hp | hp
  · exact h1 p hp
  · exact h3 p hp
theorem gl_one {q : Int} {m r : Nat} {p : List (List Int)} (h : Pt1 q m r p) : GL q m r 1 [partD p] := ⟨[p], rfl, fun x hx => by rw [List.mem_singleton.mp hx]; exact h, Nat.le_refl _⟩
theorem gl_nil {q : Int} {m r n : Nat} : GL q m r n [] := ⟨[], rfl, (fun _ h => absurd h List.not_mem_nil), Nat.zero_le _⟩
theorem gl_len {q : Int} {m r n : Nat} {xs : List D} (h : GL q m r n xs) : xs.length ≤ n := by
  obtain ⟨ps, rfl, h1, h2⟩ := h
  rw [List.length_map]
  exact h2
theorem rep_part (m r : Nat) : D.tup (rep r [D.tup (rep m [D.int 0])]) = partD (List.replicate r (List.replicate m 0)) := by
  rw [rep_word]
  unfold partD
  congr 1
  induction r with
  | zero => rfl
  | succ r ih => rw [rep, ih, List.replicate_succ]; rfl
theorem near_w {i : Nat} {s : S} (h : Ok i s) {q : Int} (hq : q ∈ primes) {m r : Nat} (hm : 1 ≤ m) (hm2 : m ≤ 6) (hr : 1 ≤ r) (hr2 : r ≤ 12) {X : List D} (hg : GL q m r 1000 X) (hpl : 1 ≤ X.length) {Q : W → S → Prop} {E : Exn → S → Prop} (hQ : ∀ xs s', (∀ x ∈ xs, ∃ ps', x = partsD ps' ∧ Pts q m r ps' ∧ ps'.length ≤ 3000) → Ok i s' → s'.nx = s.nx → Q (.d (.lst xs)) s') : wp (F__law_near [.ref i, .d (.tup [.int q, .int m, .tup []]), .d (.int r), .d (.tup X)] s) Q E := by
  have hqb := prime_bd hq
  have hgl : X.length ≤ 1000 := gl_len hg
  unfold F__law_near
  walk_at "zi"
  unfold f__law_near
  walk_at "z0"
  iterate 3 (walk_at "zs")
  refine c_spin h (t := (X.length : Nat)) (by omega) (by omega) (by walk_at "z") fun v s1 h1 h2 h3 h4 => ?_
  iterate 8 (walk_at "zs")
  refine ⟨by exact okR_int (by omega) (by omega), _, rfl, ?_⟩
  refine wp_mono (wp_lcAll (fun pre ys s' => ∃ ws : List (List Int), ys = ws.map wordD ∧ ws.length = pre.length ∧ (∀ w ∈ ws, Wd1 q m w) ∧ Ok i s' ∧ s'.nx = s.nx) (rangeL 0 ((r : Int)).toNat) [] [] s1 ⟨[], rfl, rfl, by simp, h3, h4⟩ (fun pre ys x s2 hI hx => ?_)) (fun ys s2 hI => ?_) fun _ _ h => h
  · obtain ⟨ws, rfl, hl, hk, ho, hn2⟩ := hI
    walk_at "z"
    refine word_w ho hq hm hm2 fun w s' hw h3 h4 => ?_
    refine ⟨_, rfl, ws ++ [w], by rw [List.map_append]; rfl, by rw [List.length_append, List.length_append, hl]; rfl, ?_, h3, by rw [h4, hn2]⟩
    intro j hj
    rw [List.mem_append, List.mem_singleton] at hj
    rcases hj with hj | rfl
    · exact hk j hj
    · exact hw
  · obtain ⟨ws, rfl, hl, hk, ho, hn2⟩ := hI
    rw [List.nil_append, rangeL_len] at hl
    refine ⟨by simp only [List.length_map, LIM]; omega, ?_⟩
    have hpt : Pt1 q m r ws := ⟨by omega, hk⟩
    have hc1 := cutD_len X none (some (-1))
    have hc2 := cutD_len X none (some v)
    have hc3 := cutD_len X (some v) none
    have hc4 := cutD_len X (some (v + 1)) none
    have hc5 := cutD_len X (some 1) none
    walk_at "z"
    have hzp : Pt1 q m r (List.replicate r (List.replicate m 0)) := ⟨List.length_replicate, fun w hw => by
      rw [(List.mem_replicate.mp hw).2]
      exact ⟨List.length_replicate, fun d hd => by rw [(List.mem_replicate.mp hd).2]; omega⟩⟩
    rw [Int.toNat_natCast, Int.toNat_natCast, rep_part, show D.tup (ws.map wordD) = partD ws from rfl]
    have gz := gl_one hzp
    have gw := gl_one hpt
    refine hQ _ _ (fun x hx => ?_) (sweep_ok h ho hn2) hn2
    have fin : ∀ {n : Nat} {xs : List D}, GL q m r n xs → n ≤ 3000 → ∃ ps', D.tup xs = partsD ps' ∧ Pts q m r ps' ∧ ps'.length ≤ 3000 := by
      rintro n xs ⟨ps', rfl, h1, h2⟩ hn
      exact ⟨ps', rfl, h1, by omega⟩
    simp only [List.mem_append, List.mem_cons, List.not_mem_nil, or_false] at hx
    rcases hx with (rfl | rfl | rfl | rfl | rfl | rfl | rfl) | (rfl | rfl | rfl | rfl)
    · exact fin hg (by omega)
    · exact fin (gl_cut hg _ _) (by omega)
    · exact fin (gl_app hg gz) (by omega)
    · exact fin (gl_app hg hg) (by omega)
    · exact fin (gl_app (gl_app (gl_cut hg _ _) gw) (gl_cut hg _ _)) (by omega)
    · exact fin (gl_cut hg _ _) (by omega)
    · exact fin (n := 0) gl_nil (by omega)
    · exact fin (gl_app (gl_app (gl_cut hg _ _) gz) (gl_cut hg _ _)) (by omega)
    · exact fin (gl_app (gl_cut hg _ _) (gl_cut hg _ _)) (by omega)
    · exact fin (gl_app gw hg) (by omega)
    · exact fin (gl_app hg gw) (by omega)
theorem ok_new {s : S} (a b c : Int) : Ok s.nx ((s.add (.lst [.int a, .int b, .int c])).sweep s.nx (.ref s.nx)) := by
  refine ⟨Nat.lt_succ_self _, a, b, c, ?_⟩
  rw [pget_sweep, if_pos (by simp [isRef]), pget_add_same]
theorem spins_w {s : S} {ns : List Int} (hl : ns.length ≤ 63) {k : Nat} (hk : k < 3) {Q : W → S → Prop} {E : Exn → S → Prop} (hQ : ∀ s', Ok s.nx s' → Q (.ref s.nx) s') : wp (F__law_spins [.d (.lck ns), .d (.int k)] s) Q E := by
  unfold F__law_spins
  walk_at "zi"
  unfold f__law_spins
  walk_at "z0"
  by_cases h : k < ns.length
  · have hidx : oIdxA (.lck ns) (.int (k : Int)) = some (.int ns[k]) := by
      show (atD ns (k : Int)).map D.int = _
      unfold atD
      rw [if_pos (by omega), Int.toNat_natCast, List.getElem?_eq_getElem h]
      rfl
    walk_at "z"
    · exact hQ _ (ok_new _ _ _)
    · exact hQ _ (ok_new _ _ _)
  · walk_at "z"
    · omega
    · exact hQ _ (ok_new _ _ _)
end K85
end

section
set_option Elab.async false
set_option linter.all false
set_option maxRecDepth 100000
set_option maxHeartbeats 1000000
namespace K85
open Z
local macro_rules | `(tactic| walk_at "z1") => `(tactic| first
  | with_reducible refine wf_seq ?_
  | with_reducible refine wf_ret ?_
  | with_reducible refine wf_retN ?_
  | with_reducible refine wf_set ?_
  | with_reducible refine wf_if ?_
  | with_reducible refine wf_expr ?_
  | with_reducible refine wf_nil ?_
  | with_reducible refine wf_par ?_
  | with_reducible refine wf_put ?_
  | with_reducible refine wf_raise ?_
  | with_reducible refine wf_raiseF ?_
  | with_reducible refine wf_for ?_
  | with_reducible refine wf_brk ?_
  | with_reducible refine wf_cnt ?_
  | ((with_reducible refine wf_frzR (j := ?zj) (xs := ?zx) ?zv ?zg ?_); (case zv => exact rfl); (case zg => first | exact get_head | exact rfl))
  | ((with_reducible refine wf_frzD (x := ?zx) ?zv ?_); (case zv => exact rfl))
  | with_reducible refine wf_asg ?_
  | with_reducible refine wp_K ?_
  | ((with_reducible refine wp_var (w := ?zw) ?zv ?_); (case zv => exact rfl))
  | with_reducible refine wp_op ?_
  | with_reducible refine wp_un ?_
  | with_reducible refine wp_chain ?_
  | with_reducible refine wp_tru ?_
  | with_reducible refine wp_TB ?_
  | with_reducible refine wp_tAnd ?_
  | with_reducible refine wp_tOr ?_
  | with_reducible refine wp_tNot ?_
  | with_reducible refine wp_cAnd ?_
  | with_reducible refine wp_cOr ?_
  | with_reducible refine wp_cNot ?_
  | with_reducible refine wp_cIf ?_
  | with_reducible refine wp_aNil ?_
  | with_reducible refine wp_aCons ?_
  | with_reducible refine wp_aStar ?_
  | with_reducible refine wp_tup ?_
  | with_reducible refine wp_disp ?_
  | with_reducible refine wp_frz ?_
  | with_reducible refine wp_new ?_
  | with_reducible refine wp_done ?_
  | with_reducible refine wp_bi ?_
  | with_reducible refine wp_is ?_
  | with_reducible refine wp_list ?_
  | with_reducible refine wp_pNone ?_
  | with_reducible refine wp_pSome ?_
  | with_reducible refine wp_sl ?_
  | with_reducible refine wp_lSl ?_
  | with_reducible refine wp_rev ?_
  | with_reducible refine wp_lRev ?_
  | with_reducible refine wp_callP_ok ?_
  | with_reducible refine wp_callI ?_
  | with_reducible refine wp_strM ?_
  | with_reducible refine wp_append ?_
  | with_reducible refine wp_extend ?_
  | with_reducible refine wp_iVal ?_
  | with_reducible refine wp_rg1 ?_
  | with_reducible refine wp_rg2 ?_
  | with_reducible refine wp_rg3 ?_
  | with_reducible refine wp_enum ?_
  | with_reducible refine wp_lc ?_
  | with_reducible refine wp_lc2 ?_
  | with_reducible refine wp_fldO ?_
  | with_reducible refine wp_gNm ?_
  | with_reducible refine wp_gFld ?_
  | with_reducible refine wf_fld ?_
  | with_reducible refine wp_make ?_
  | with_reducible refine wp_doneO ?_
  | with_reducible refine wp_gEach ?_
  | with_reducible refine wp_gEach_nil ?_
  | with_reducible refine wp_gAll ?_
  | with_reducible refine wp_gAll_nil ?_
  | with_reducible refine wf_parT ?_
  | with_reducible refine wp_gTp ?_
  | with_reducible refine wp_ok ?_)
local macro_rules | `(tactic| walk_at "zr") => `(tactic| exact rfl)
local macro_rules | `(tactic| walk_at "zr") => `(tactic| ((with_reducible refine oMod_int ?_); first | with_reducible assumption | omega))
local macro_rules | `(tactic| walk_at "zr") => `(tactic| ((with_reducible refine oDiv_int ?_ ?_) <;> first | with_reducible assumption | omega))
local macro_rules | `(tactic| walk_at "zr") => `(tactic| ((with_reducible refine oMul_int ?_); first | with_reducible assumption | omega))
local macro_rules | `(tactic| walk_at "zr") => `(tactic| ((with_reducible refine bDivmod_int ?_ ?_) <;> first | with_reducible assumption | omega))
local macro_rules | `(tactic| walk_at "zr") => `(tactic| with_reducible exact rfl)
local macro_rules | `(tactic| walk_at "zr") => `(tactic| ((with_reducible refine atD_int ?_ ?_) <;> first | with_reducible assumption | omega))
local macro_rules | `(tactic| walk_at "zr") => `(tactic| ((with_reducible refine setD_int ?_ ?_) <;> first | with_reducible assumption | omega))
local macro_rules | `(tactic| walk_at "zr") => `(tactic| with_reducible exact bAll_fun _ _)
local macro_rules | `(tactic| walk_at "zr") => `(tactic| with_reducible exact bAny_fun _ _)
local macro_rules | `(tactic| walk_at "zc") => `(tactic| with_reducible assumption)
local macro_rules | `(tactic| walk_at "zl") => `(tactic| first
  | with_reducible exact rfl
  | with_reducible assumption
  | ((with_reducible refine okR_int ?_ ?_) <;> first | omega | (simp only [List.length_map]; omega))
  | ((with_reducible refine okR2 ?_ ?_ ?_ ?_) <;> first | omega | (simp only [List.length_map]; omega))
  | ((with_reducible refine okR3 ?_ ?_ ?_ ?_ ?_ ?_) <;> first | omega | decide | (simp only [List.length_map]; omega))
  | (simp only [List.length_map, List.length_append, List.length_cons, List.length_nil, List.length_replicate, List.length_reverse, LIM]; omega)
  | exact rfl
  | decide
  | fail)
local macro_rules | `(tactic| walk_at "zr") => `(tactic| with_reducible exact get_head)
local macro_rules | `(tactic| walk_at "zr") => `(tactic| ((with_reducible refine oMul_tup ?_ ?_ ?_) <;> first | omega | decide))
local macro_rules | `(tactic| walk_at "zr") => `(tactic| ((with_reducible refine oAdd_tup ?_); first | omega | (simp only [prep_len, List.length_map, List.length_append, List.length_cons, List.length_nil, List.length_reverse, List.length_replicate]; omega)))
local macro_rules | `(tactic| walk_at "zr") => `(tactic| ((with_reducible refine oAdd_lst ?_); first | omega | (simp only [prep_len, List.length_map, List.length_append, List.length_cons, List.length_nil, List.length_reverse, List.length_replicate]; omega)))
local macro_rules | `(tactic| walk_at "z2") => `(tactic| first
  | ((with_reducible refine Exists.intro ?za (Exists.intro ?zb (Exists.intro ?zc (Exists.intro ?zd (Exists.intro ?ze (And.intro ?z1 (And.intro ?z2 (And.intro ?z3 (And.intro ?z4 (And.intro ?z5 ?_)))))))))); (case z1 => exact rfl); (case z2 => exact rfl); (case z3 => exact rfl); (case z4 => exact rfl); (case z5 => walk_at "zr"))
  | ((with_reducible refine Exists.intro ?za (Exists.intro ?zb (Exists.intro ?zc (Exists.intro ?zd (And.intro ?z1 (And.intro ?z2 (And.intro ?z3 ?_))))))); (case z1 => exact rfl); (case z2 => walk_at "zr"); (case z3 => walk_at "zr"))
  | ((with_reducible refine Exists.intro ?za (Exists.intro ?zb (Exists.intro ?zc (And.intro ?z1 (And.intro ?z2 (And.intro ?z3 ?_)))))); (case z1 => exact rfl); (case z2 => exact rfl); (case z3 => walk_at "zr"))
  | ((with_reducible refine Exists.intro ?za (Exists.intro ?zb (And.intro ?z1 (And.intro ?z2 ?_)))); (case z1 => exact rfl); (case z2 => first | with_reducible assumption | walk_at "zc" | walk_at "zr"))
  | ((with_reducible refine Exists.intro ?za (And.intro ?z1 ?_)); (case z1 => first | exact rfl | ((with_reducible refine asDs_star (zs := ?zq) ?zh); (case zh => exact rfl))))
  | ((with_reducible refine Or.inl (Exists.intro ?za (Exists.intro ?zb (And.intro ?z1 (And.intro ?z2 ?_))))); (case z1 => exact rfl); (case z2 => exact rfl))
  | with_reducible refine And.intro (fun z => absurd z (by decide)) (fun _ => ?_)
  | with_reducible refine And.intro (fun _ => ?_) (fun z => absurd z (by decide))
  | (refine And.intro (fun hz => ?_) (fun hz => ?_) <;> try simp only [decide_eq_true_eq, decide_eq_false_iff_not, Bool.not_eq_true', Bool.not_eq_false', Int.not_le, Int.not_lt, eqv_int, beq_iff_eq, beq_eq_false_iff_ne, ne_eq, bne_iff_ne] at hz)
  | ((with_reducible refine And.intro ?z1 ?_); (case z1 => walk_at "zl"))
  | fail)
local macro_rules | `(tactic| walk_at "z") => `(tactic| repeat' ((first | walk_at "z1" | walk_at "z2"); try dsimp only [List.set_cons_zero, List.set_cons_succ, S.add, S.nil, S.put]; try simp only [setO_head, del_mk, delO_head, delO_nil]))
local macro_rules | `(tactic| walk_at "z0") => `(tactic| simp only [start, List.map_cons, List.map_nil, List.length_cons, List.length_nil, Nat.reduceAdd, Nat.reduceSub, Nat.zero_add, Nat.sub_self, List.replicate_zero, List.replicate_succ, List.cons_append, List.nil_append, List.append_nil])
local macro_rules | `(tactic| walk_at "zp") => `(tactic| ((with_reducible refine runP_w ?h1 ?h2); (case h1 => rfl)))
local macro_rules | `(tactic| walk_at "zp") => `(tactic| ((with_reducible refine runP_of ?h1 ?h2); (case h1 => rfl)))
local macro_rules | `(tactic| walk_at "zi") => `(tactic| ((with_reducible refine runI_w ?h1 ?h2); (case h1 => rfl)))
local macro_rules | `(tactic| walk_at "zs") => `(tactic| ((first | walk_at "z1" | walk_at "z2"); try dsimp only [List.set_cons_zero, List.set_cons_succ, S.add, S.nil, S.put]; try simp only [setO_head, del_mk, delO_head, delO_nil]))
local macro_rules | `(tactic| walk_at "zr") => `(tactic| ((with_reducible refine oMul_lst ?_ ?_ ?_) <;> first | omega | (simp only [prep_len, List.length_map, List.length_append, List.length_cons, List.length_nil, List.length_reverse, List.length_replicate]; omega)))
local macro_rules | `(tactic| walk_at "ze") => `(tactic| first
  | exact rfl
  | with_reducible assumption
  | ((with_reducible refine view_get (xs := ?zxs) ?zhh); (case zhh => with_reducible assumption))
  | ((with_reducible refine view_put (u := ?zxs) ?zhh); (case zhh => with_reducible assumption))
  | ((with_reducible refine pget_put_same (u := ?zxs) ?zhh); (case zhh => with_reducible assumption))
  | fail)
local macro_rules | `(tactic| walk_at "z2") => `(tactic| first
  | ((with_reducible refine Exists.intro ?za (Exists.intro ?zb (Exists.intro ?zc (Exists.intro ?zd (Exists.intro ?ze (And.intro ?z1 (And.intro ?z2 (And.intro ?z3 (And.intro ?z4 (And.intro ?z5 ?_)))))))))); (case z1 => walk_at "ze"); (case z2 => walk_at "ze"); (case z3 => walk_at "ze"); (case z4 => walk_at "ze"); (case z5 => walk_at "zr"))
  | ((with_reducible refine Exists.intro ?za (Exists.intro ?zb (Exists.intro ?zc (Exists.intro ?zd (And.intro ?z1 (And.intro ?z2 (And.intro ?z3 ?_))))))); (case z1 => walk_at "ze"); (case z2 => walk_at "zr"); (case z3 => walk_at "zr"))
  | ((with_reducible refine Exists.intro ?za (Exists.intro ?zb (Exists.intro ?zc (And.intro ?z1 (And.intro ?z2 (And.intro ?z3 ?_)))))); (case z1 => walk_at "ze"); (case z2 => walk_at "ze"); (case z3 => walk_at "zr"))
  | ((with_reducible refine Exists.intro ?za (Exists.intro ?zb (And.intro ?z1 (And.intro ?z2 ?_)))); (case z1 => walk_at "ze"); (case z2 => first | with_reducible assumption | walk_at "zc" | walk_at "zr"))
  | ((with_reducible refine Exists.intro ?za (And.intro ?z1 ?_)); (case z1 => first | exact rfl | ((with_reducible refine asDs_star (zs := ?zq) ?zh); (case zh => exact rfl))))
  | ((with_reducible refine Or.inl (Exists.intro ?za (Exists.intro ?zb (And.intro ?z1 (And.intro ?z2 ?_))))); (case z1 => walk_at "ze"); (case z2 => walk_at "ze"))
  | with_reducible refine And.intro (fun z => absurd z (by decide)) (fun _ => ?_)
  | with_reducible refine And.intro (fun _ => ?_) (fun z => absurd z (by decide))
  | (refine And.intro (fun hz => ?_) (fun hz => ?_) <;> try simp only [decide_eq_true_eq, decide_eq_false_iff_not, Bool.not_eq_true', Bool.not_eq_false', Int.not_le, Int.not_lt, eqv_int, beq_iff_eq, beq_eq_false_iff_ne, ne_eq, bne_iff_ne] at hz)
  | ((with_reducible refine And.intro ?z1 ?_); (case z1 => walk_at "zl"))
  | fail)
local macro_rules | `(tactic| walk_at "z") => `(tactic| repeat' ((first | walk_at "z1" | walk_at "z2"); try dsimp only [List.set_cons_zero, List.set_cons_succ]))
local macro_rules | `(tactic| walk_at "zs") => `(tactic| ((first | walk_at "z1" | walk_at "z2"); try dsimp only [List.set_cons_zero, List.set_cons_succ]))
local macro_rules | `(tactic| walk_at "zc") => `(tactic| with_reducible exact is_whole_int _)
local macro_rules | `(tactic| walk_at "zc") => `(tactic| with_reducible exact is_within_int _ _ _)
local macro_rules | `(tactic| walk_at "zc") => `(tactic| (with_reducible refine size_in_ok ?_; with_reducible assumption))
local macro_rules | `(tactic| walk_at "zc") => `(tactic| (with_reducible refine lt_size_ok ?_; with_reducible assumption))
local macro_rules | `(tactic| walk_at "zc") => `(tactic| (with_reducible refine require_base_ok ?_; with_reducible assumption))
local macro_rules | `(tactic| walk_at "zc") => `(tactic| (with_reducible refine sign_size_ok ?_; with_reducible assumption))
local macro_rules | `(tactic| walk_at "zc") => `(tactic| ((with_reducible refine require_rows_ok ?_ ?_) <;> omega))
local macro_rules | `(tactic| walk_at "zc") => `(tactic| ((with_reducible refine digits_in_ok ?_ ?_ ?_) <;> omega))
local macro_rules | `(tactic| walk_at "zc") => `(tactic| ((with_reducible refine lt_digits_ok ?_ ?_ ?_) <;> omega))
local macro_rules | `(tactic| walk_at "zc") => `(tactic| ((with_reducible refine number_of_digits_ok ?_ ?_ _) <;> omega))
local macro_rules | `(tactic| walk_at "zc") => `(tactic| ((with_reducible refine many_parts_ok ?_ ?_ ?_ ?_ ?_ ?_) <;> first | with_reducible assumption | omega))
local macro_rules | `(tactic| walk_at "zc") => `(tactic| with_reducible exact lt_signs_ok)
local macro_rules | `(tactic| walk_at "zr") => `(tactic| ((with_reducible refine kIndex_sgT ?_ ?_) <;> first | with_reducible assumption | exact rfl))
local macro_rules | `(tactic| walk_at "zc") => `(tactic| ((with_reducible refine require_letter_ok _ ?_ ?_) <;> first | with_reducible assumption | omega))
local macro_rules | `(tactic| walk_at "zc") => `(tactic| ((with_reducible refine parts_in_ok ?_ ?_ ?_ ?_ ?_ _ ?_ ?_) <;> first | with_reducible assumption | omega))
local macro_rules | `(tactic| walk_at "zc") => `(tactic| ((with_reducible refine lt_parts_ok ?_ ?_ ?_ ?_ ?_ _ ?_ ?_) <;> first | with_reducible assumption | omega))
local macro_rules | `(tactic| walk_at "zc") => `(tactic| ((with_reducible refine parts_of_ok ?_ ?_ ?_ ?_ ?_ _ ?_ ?_) <;> first | with_reducible assumption | omega))
local macro_rules | `(tactic| walk_at "zr") => `(tactic| ((with_reducible refine idx_sg ?_ ?_ ?_) <;> first | omega | exact rfl))
local macro_rules | `(tactic| walk_at "zr") => `(tactic| with_reducible assumption)
local macro_rules | `(tactic| walk_at "zc") => `(tactic| (with_reducible refine joined_ok _ ?_; omega))
local macro_rules | `(tactic| walk_at "zr") => `(tactic| with_reducible exact oEq_parts _ _)
local macro_rules | `(tactic| walk_at "zr") => `(tactic| ((with_reducible refine oMul_tup ?_ ?_ ?_) <;> first | omega | (simp only [List.length_cons, List.length_nil]; omega)))
local macro_rules | `(tactic| walk_at "zc") => `(tactic| ((with_reducible refine parts_of_ok ?_ ?_ ?_ ?_ ?_ _ ?_ ?_) <;> first | with_reducible assumption | omega))
theorem chunk_mem {α : Type} {n k : Nat} {xs : List α} (h : xs.length = k * n) : ∀ x ∈ chunk n k xs, x.length = n ∧ ∀ d ∈ x, d ∈ xs := by
  intro x hx
  unfold chunk at hx
  obtain ⟨i, hi, rfl⟩ := List.mem_map.mp hx
  have hi := List.mem_range.mp hi
  have h2 : (i + 1) * n ≤ k * n := Nat.mul_le_mul_right _ hi
  rw [Nat.succ_mul] at h2
  refine ⟨?_, fun d hd => List.mem_of_mem_drop (List.mem_of_mem_take hd)⟩
  rw [List.length_take, List.length_drop]
  omega
theorem enc_pts {q : Int} (hq : q ∈ primes) {m r : Nat} (hm : 1 ≤ m) (hr : 1 ≤ r) (ks : List Nat) : Pts q m r (enc q m r ks) := by
  have hqb := prime_bd hq
  have h1 : 1 ≤ r * m := Nat.mul_pos hr hm
  unfold enc cutP
  have hd : ∀ d ∈ code q ks ++ List.replicate (sz q) (0 : Int), 0 ≤ d ∧ d < q := by
    intro d hd
    rcases List.mem_append.mp hd with hd | hd
    · unfold code at hd
      obtain ⟨x, hx, hd⟩ := List.mem_flatten.mp hd
      obtain ⟨k, hk, rfl⟩ := List.mem_map.mp hx
      unfold sgd at hd
      exact digs_bd (by omega) _ _ d (List.mem_reverse.mp hd)
    · rw [(List.mem_replicate.mp hd).2]; omega
  generalize code q ks ++ List.replicate (sz q) (0 : Int) = ds at *
  have h4 := pad_le (n0 := ds.length) h1
  generalize (ds.length + r * m - 1) / (r * m) = K at *
  have hl : (ds ++ List.replicate (K * (r * m) - ds.length) 0).length = K * r * m := by
    rw [List.length_append, List.length_replicate, Nat.mul_assoc]
    omega
  have hd2 : ∀ d ∈ ds ++ List.replicate (K * (r * m) - ds.length) 0, 0 ≤ d ∧ d < q := by
    intro d hd3
    rcases List.mem_append.mp hd3 with hd3 | hd3
    · exact hd d hd3
    · rw [(List.mem_replicate.mp hd3).2]; omega
  intro p hp
  obtain ⟨a1, a2⟩ := chunk_mem (n := r) (k := K) (by rw [chunk_len]) p hp
  refine ⟨a1, fun w hw => ?_⟩
  obtain ⟨b1, b2⟩ := chunk_mem hl w (a2 w hw)
  exact ⟨b1, fun d hd3 => hd2 d (b2 d hd3)⟩
theorem sg_bd (k : Nat) : sg k < 1114112 := by
  by_cases h : k < 43
  · exact (show ∀ k, k < 43 → sg k < 1114112 by decide) k h
  · unfold sg
    rw [List.getD_eq_getElem?_getD, List.getElem?_eq_none (by rw [tx2_len]; omega)]
    decide
theorem eqv_strs (t : List Nat) : eqv (.str t) (.str t) = true := by
  show (t == t) = true
  simp
theorem lay_let (ks : List Nat) : lay (letD ks) = true := by
  show (ks.map sg).all (fun c => decide (c < 1114112)) = true
  rw [List.all_map, List.all_eq_true]
  intro k _
  show decide (sg k < 1114112) = true
  rw [decide_eq_true (sg_bd k)]
theorem shp_law (R : Res) : shp (lawD R) = true := by
  cases R with
  | lt ks =>
    show (lay (.tup [.str tx0, letD ks]) && decide (depth (.tup [.str tx0, letD ks]) ≤ 64)) = true
    have : lay (.tup [.str tx0, letD ks]) = true := by
      show (lay (.str tx0) && (lay (letD ks) && true)) = true
      rw [lay_let]
      decide
    rw [this]
    rfl
  | sign i =>
    show (lay (.tup [.str tx1, .tup [.str tx4, .int i]]) && _) = true
    rfl
  | rest => rfl
  | long => rfl
  | fin => rfl
theorem eqv_law (R : Res) : eqv (lawD R) (lawD R) = true := by
  cases R with
  | lt ks =>
    show (eqv (.str tx0) (.str tx0) && (eqv (letD ks) (letD ks) && true)) = true
    rw [show eqv (letD ks) (letD ks) = true from eqv_strs _, eqv_strs]
    rfl
  | sign i =>
    show (eqv (.str tx1) (.str tx1) && ((eqv (.str tx4) (.str tx4) && (((i : Int) == (i : Int)) && true)) && true)) = true
    rw [eqv_strs, eqv_strs]
    simp
  | rest => rfl
  | long => rfl
  | fin => rfl
theorem oNe_law (R : Res) : oNe (lawD R) (lawD R) = some (.bl false) := by
  unfold oNe
  rw [shp_law, eqv_law]
  rfl
theorem oNe_parts (a : List (List (List Int))) : oNe (partsD a) (partsD a) = some (.bl false) := by
  unfold oNe
  rw [shp_parts, (eqv_parts a a).mpr rfl]
  rfl
theorem oNe_int (i : Int) : oNe (.int i) (.int i) = some (.bl false) := by
  unfold oNe
  have : eqv (.int i) (.int i) = true := by show (i == i) = true; simp
  rw [this]
  rfl
local macro_rules | `(tactic| walk_at "zr") => `(tactic| with_reducible exact oNe_law _)
local macro_rules | `(tactic| walk_at "zr") => `(tactic| with_reducible exact oNe_parts _)
local macro_rules | `(tactic| walk_at "zr") => `(tactic| with_reducible exact oNe_int _)
theorem sweep_ok2 {i : Nat} {s s' : S} {w : W} (h : Ok i s) (h' : Ok i s') : Ok i (s'.sweep s.nx w) := by
  refine ⟨h'.1, ?_⟩
  obtain ⟨a, b, c, h5⟩ := h'.2
  exact ⟨a, b, c, (get_keep h.1).trans h5⟩
theorem ok_keep {i : Nat} {s s' : S} (h : Ok i s) (hk : ∀ j, j < s.nx → s'.get j = s.get j) (hn : s'.nx = s.nx + 1) : Ok i s' := by
  obtain ⟨h1, a, b, c, h2⟩ := h
  exact ⟨by omega, a, b, c, by rw [hk _ h1, h2]⟩
/-- one draw answers right -/
theorem right_w {i : Nat} {s : S} (h : Ok i s) {Q : W → S → Prop} {E : Exn → S → Prop} (hQ : ∀ s', Ok i s' → Q (.d (.bl true)) s') : wp (F__law_right [.ref i] s) Q E := by
  unfold F__law_right
  walk_at "zi"
  unfold f__law_right
  walk_at "z0"
  walk_at "z"
  refine among_w h (by simp) (by simp only [List.length_cons, List.length_nil]; omega) fun v s1 hv ho1 _ => ?_
  obtain ⟨q, hq, rfl⟩ : ∃ q : Int, q ∈ primes ∧ v = .int q := by
    simp only [List.mem_cons, List.not_mem_nil, or_false] at hv
    rcases hv with rfl | rfl | rfl | rfl | rfl | rfl | rfl <;> exact ⟨_, by decide, rfl⟩
  iterate 3 (walk_at "zs")
  refine c_spin ho1 (t := 6) (by omega) (by omega) (by walk_at "z") fun v1 s2 a1 a2 ho2 _ => ?_
  refine ⟨_, _, _, rfl, rfl, rfl, ?_⟩
  obtain ⟨m, hm⟩ : ∃ m : Nat, (m : Int) = 1 + v1 := ⟨(1 + v1).toNat, by omega⟩
  rw [← hm]
  have hm1 : 1 ≤ m := by omega
  have hm2 : m ≤ 6 := by omega
  iterate 3 (walk_at "zs")
  refine c_spin ho2 (t := 4) (by omega) (by omega) (by walk_at "z") fun v2 s3 b1 b2 ho3 _ => ?_
  refine ⟨_, _, _, rfl, rfl, rfl, ?_⟩
  obtain ⟨r, hr⟩ : ∃ r : Nat, (r : Int) = 1 + v2 := ⟨(1 + v2).toNat, by omega⟩
  rw [← hr]
  have hr1 : 1 ≤ r := by omega
  have hr2 : r ≤ 12 := by omega
  clear hm hr
  iterate 9 (walk_at "zs")
  refine wf_par ?_
  walk_at "z1"
  refine field_w hq m hm1 hm2 s3 _ _ (fun l s4 hl hkp hn4 => ?_) (by walk_at "z")
  have ho4 := ok_keep ho3 hkp hn4
  walk_at "z"
  refine among_w ho4 (by simp) (by simp only [List.length_cons, List.length_nil]; omega) fun v s5 hv ho5 _ => ?_
  obtain ⟨n, hn, rfl⟩ : ∃ n : Nat, n ≤ 8 ∧ v = .int n := by
    simp only [List.mem_cons, List.not_mem_nil, or_false] at hv
    rcases hv with rfl | rfl | rfl | rfl
    · exact ⟨0, by omega, rfl⟩
    · exact ⟨1, by omega, rfl⟩
    · exact ⟨3, by omega, rfl⟩
    · exact ⟨8, by omega, rfl⟩
  iterate 1 (walk_at "zs")
  refine letter_w ho5 (by omega) fun ks s6 hkl hk43 ho6 _ => ?_
  have hkl4 : ks.length ≤ 400 := by omega
  have hpts := enc_pts hq hm1 hr1 ks
  have hel : (enc q m r ks).length ≤ 1000 ∧ 1 ≤ (enc q m r ks).length := by
    have h1 : 1 ≤ r * m := Nat.mul_pos hr1 hm1
    have hsz := sz_bd q
    have h3 : sz q * (ks.length + 1) ≤ 6 * 9 := Nat.mul_le_mul hsz.2 (by omega)
    have h4 := pad_le (n0 := sz q * (ks.length + 1)) h1
    have h5 : 1 ≤ sz q * (ks.length + 1) := Nat.mul_pos (by omega) (by omega)
    rw [enc_len]
    constructor
    · have h2 : r * m ≤ 12 * 6 := Nat.mul_le_mul hr2 hm2
      have := Nat.div_le_self (sz q * (ks.length + 1) + r * m - 1) (r * m)
      omega
    · exact (Nat.one_le_div_iff (by omega)).mpr (by omega)
  walk_at "z"
  have hgl : GL q m r 1000 ((enc q m r ks).map partD) := ⟨_, rfl, hpts, hel.1⟩
  have hgn : 1 ≤ ((enc q m r ks).map partD).length := by rw [List.length_map]; exact hel.2
  generalize hPD : partsD (enc q m r ks) = PD at *
  have hPD2 : PD = .tup ((enc q m r ks).map partD) := hPD.symm
  generalize (enc q m r ks).map partD = X at *
  refine wf_turns (fun _ e s' => ∃ w w', e = [some (W.ref i), some (W.d PD), some (W.d (D.tup [D.int q, D.int ↑m, D.tup []])), w,
        some (W.d (D.int q)), some (W.d (D.int ↑m)), some (W.d (D.int ↑r)), some (W.d (fldD l q ↑m)),
        some (W.d (letD ks)), w'] ∧ Ok i s') ⟨_, _, rfl, ho6⟩ (fun k x e s7 hk hx hI => ?_) (fun e s7 hI => ?_)
  · obtain ⟨w, w', rfl, ho7⟩ := hI
    rw [hPD2]
    walk_at "z"
    refine near_w ho7 hq hm1 hm2 hr1 hr2 hgl hgn fun xs s8 hxs ho8 _ => ?_
    refine .inl ⟨_, _, rfl, rfl, ?_⟩
    refine wf_all (fun _ e s' => ∃ w', e = [some (W.ref i), some (W.d (D.tup X)), some (W.d (D.tup [D.int q, D.int ↑m, D.tup []])), some (W.d x),
        some (W.d (D.int q)), some (W.d (D.int ↑m)), some (W.d (D.int ↑r)), some (W.d (fldD l q ↑m)),
        some (W.d (letD ks)), w'] ∧ Ok i s') ⟨_, rfl, ho8⟩ (fun pre x1 post e s9 ha hI => ?_) (fun e s9 hI => ?_)
    · obtain ⟨w', rfl, ho9⟩ := hI
      obtain ⟨ps, rfl, hps, hpl⟩ := hxs x1 (by rw [ha]; simp)
      have hread := law_read_ok (l := l) hq hm1 hm2 hr1 hr2 ps hps hpl
      rw [res_eq hq hm1 hr1 hps] at hread
      have htold := lt_told_ok hq hm1 hm2 hr1 hr2 ps hps hpl
      walk_at "z"
      exact ho9
    · obtain ⟨w', rfl, ho9⟩ := hI
      exact ⟨_, _, rfl, ho9⟩
  · obtain ⟨w, w', rfl, ho7⟩ := hI
    walk_at "z"
    exact hQ _ (sweep_ok2 h ho7)
end K85
end

section
set_option Elab.async false
set_option linter.all false
set_option maxRecDepth 100000
set_option maxHeartbeats 1000000
namespace K85
open Z
local macro_rules | `(tactic| walk_at "z1") => `(tactic| first
  | with_reducible refine wf_seq ?_
  | with_reducible refine wf_ret ?_
  | with_reducible refine wf_retN ?_
  | with_reducible refine wf_set ?_
  | with_reducible refine wf_if ?_
  | with_reducible refine wf_expr ?_
  | with_reducible refine wf_nil ?_
  | with_reducible refine wf_par ?_
  | with_reducible refine wf_put ?_
  | with_reducible refine wf_raise ?_
  | with_reducible refine wf_raiseF ?_
  | with_reducible refine wf_for ?_
  | with_reducible refine wf_brk ?_
  | with_reducible refine wf_cnt ?_
  | ((with_reducible refine wf_frzR (j := ?zj) (xs := ?zx) ?zv ?zg ?_); (case zv => exact rfl); (case zg => first | exact get_head | exact rfl))
  | ((with_reducible refine wf_frzD (x := ?zx) ?zv ?_); (case zv => exact rfl))
  | with_reducible refine wf_asg ?_
  | with_reducible refine wp_K ?_
  | ((with_reducible refine wp_var (w := ?zw) ?zv ?_); (case zv => exact rfl))
  | with_reducible refine wp_op ?_
  | with_reducible refine wp_un ?_
  | with_reducible refine wp_chain ?_
  | with_reducible refine wp_tru ?_
  | with_reducible refine wp_TB ?_
  | with_reducible refine wp_tAnd ?_
  | with_reducible refine wp_tOr ?_
  | with_reducible refine wp_tNot ?_
  | with_reducible refine wp_cAnd ?_
  | with_reducible refine wp_cOr ?_
  | with_reducible refine wp_cNot ?_
  | with_reducible refine wp_cIf ?_
  | with_reducible refine wp_aNil ?_
  | with_reducible refine wp_aCons ?_
  | with_reducible refine wp_aStar ?_
  | with_reducible refine wp_tup ?_
  | with_reducible refine wp_disp ?_
  | with_reducible refine wp_frz ?_
  | with_reducible refine wp_new ?_
  | with_reducible refine wp_done ?_
  | with_reducible refine wp_bi ?_
  | with_reducible refine wp_is ?_
  | with_reducible refine wp_list ?_
  | with_reducible refine wp_pNone ?_
  | with_reducible refine wp_pSome ?_
  | with_reducible refine wp_sl ?_
  | with_reducible refine wp_lSl ?_
  | with_reducible refine wp_rev ?_
  | with_reducible refine wp_lRev ?_
  | with_reducible refine wp_callP_ok ?_
  | with_reducible refine wp_callI ?_
  | with_reducible refine wp_strM ?_
  | with_reducible refine wp_append ?_
  | with_reducible refine wp_extend ?_
  | with_reducible refine wp_iVal ?_
  | with_reducible refine wp_rg1 ?_
  | with_reducible refine wp_rg2 ?_
  | with_reducible refine wp_rg3 ?_
  | with_reducible refine wp_enum ?_
  | with_reducible refine wp_lc ?_
  | with_reducible refine wp_lc2 ?_
  | with_reducible refine wp_fldO ?_
  | with_reducible refine wp_gNm ?_
  | with_reducible refine wp_gFld ?_
  | with_reducible refine wf_fld ?_
  | with_reducible refine wp_make ?_
  | with_reducible refine wp_doneO ?_
  | with_reducible refine wp_gEach ?_
  | with_reducible refine wp_gEach_nil ?_
  | with_reducible refine wp_gAll ?_
  | with_reducible refine wp_gAll_nil ?_
  | with_reducible refine wf_parT ?_
  | with_reducible refine wp_gTp ?_
  | with_reducible refine wp_ok ?_)
local macro_rules | `(tactic| walk_at "zr") => `(tactic| exact rfl)
local macro_rules | `(tactic| walk_at "zr") => `(tactic| ((with_reducible refine oMod_int ?_); first | with_reducible assumption | omega))
local macro_rules | `(tactic| walk_at "zr") => `(tactic| ((with_reducible refine oDiv_int ?_ ?_) <;> first | with_reducible assumption | omega))
local macro_rules | `(tactic| walk_at "zr") => `(tactic| ((with_reducible refine oMul_int ?_); first | with_reducible assumption | omega))
local macro_rules | `(tactic| walk_at "zr") => `(tactic| ((with_reducible refine bDivmod_int ?_ ?_) <;> first | with_reducible assumption | omega))
local macro_rules | `(tactic| walk_at "zr") => `(tactic| with_reducible exact rfl)
local macro_rules | `(tactic| walk_at "zr") => `(tactic| ((with_reducible refine atD_int ?_ ?_) <;> first | with_reducible assumption | omega))
local macro_rules | `(tactic| walk_at "zr") => `(tactic| ((with_reducible refine setD_int ?_ ?_) <;> first | with_reducible assumption | omega))
local macro_rules | `(tactic| walk_at "zr") => `(tactic| with_reducible exact bAll_fun _ _)
local macro_rules | `(tactic| walk_at "zr") => `(tactic| with_reducible exact bAny_fun _ _)
local macro_rules | `(tactic| walk_at "zc") => `(tactic| with_reducible assumption)
local macro_rules | `(tactic| walk_at "zl") => `(tactic| first
  | with_reducible exact rfl
  | with_reducible assumption
  | ((with_reducible refine okR_int ?_ ?_) <;> first | omega | (simp only [List.length_map]; omega))
  | ((with_reducible refine okR2 ?_ ?_ ?_ ?_) <;> first | omega | (simp only [List.length_map]; omega))
  | ((with_reducible refine okR3 ?_ ?_ ?_ ?_ ?_ ?_) <;> first | omega | decide | (simp only [List.length_map]; omega))
  | (simp only [List.length_map, List.length_append, List.length_cons, List.length_nil, List.length_replicate, List.length_reverse, LIM]; omega)
  | exact rfl
  | decide
  | fail)
local macro_rules | `(tactic| walk_at "zr") => `(tactic| with_reducible exact get_head)
local macro_rules | `(tactic| walk_at "zr") => `(tactic| ((with_reducible refine oMul_tup ?_ ?_ ?_) <;> first | omega | decide))
local macro_rules | `(tactic| walk_at "zr") => `(tactic| ((with_reducible refine oAdd_tup ?_); first | omega | (simp only [prep_len, List.length_map, List.length_append, List.length_cons, List.length_nil, List.length_reverse, List.length_replicate]; omega)))
local macro_rules | `(tactic| walk_at "zr") => `(tactic| ((with_reducible refine oAdd_lst ?_); first | omega | (simp only [prep_len, List.length_map, List.length_append, List.length_cons, List.length_nil, List.length_reverse, List.length_replicate]; omega)))
local macro_rules | `(tactic| walk_at "z2") => `(tactic| first
  | ((with_reducible refine Exists.intro ?za (Exists.intro ?zb (Exists.intro ?zc (Exists.intro ?zd (Exists.intro ?ze (And.intro ?z1 (And.intro ?z2 (And.intro ?z3 (And.intro ?z4 (And.intro ?z5 ?_)))))))))); (case z1 => exact rfl); (case z2 => exact rfl); (case z3 => exact rfl); (case z4 => exact rfl); (case z5 => walk_at "zr"))
  | ((with_reducible refine Exists.intro ?za (Exists.intro ?zb (Exists.intro ?zc (Exists.intro ?zd (And.intro ?z1 (And.intro ?z2 (And.intro ?z3 ?_))))))); (case z1 => exact rfl); (case z2 => walk_at "zr"); (case z3 => walk_at "zr"))
  | ((with_reducible refine Exists.intro ?za (Exists.intro ?zb (Exists.intro ?zc (And.intro ?z1 (And.intro ?z2 (And.intro ?z3 ?_)))))); (case z1 => exact rfl); (case z2 => exact rfl); (case z3 => walk_at "zr"))
  | ((with_reducible refine Exists.intro ?za (Exists.intro ?zb (And.intro ?z1 (And.intro ?z2 ?_)))); (case z1 => exact rfl); (case z2 => first | with_reducible assumption | walk_at "zc" | walk_at "zr"))
  | ((with_reducible refine Exists.intro ?za (And.intro ?z1 ?_)); (case z1 => first | exact rfl | ((with_reducible refine asDs_star (zs := ?zq) ?zh); (case zh => exact rfl))))
  | ((with_reducible refine Or.inl (Exists.intro ?za (Exists.intro ?zb (And.intro ?z1 (And.intro ?z2 ?_))))); (case z1 => exact rfl); (case z2 => exact rfl))
  | with_reducible refine And.intro (fun z => absurd z (by decide)) (fun _ => ?_)
  | with_reducible refine And.intro (fun _ => ?_) (fun z => absurd z (by decide))
  | (refine And.intro (fun hz => ?_) (fun hz => ?_) <;> try simp only [decide_eq_true_eq, decide_eq_false_iff_not, Bool.not_eq_true', Bool.not_eq_false', Int.not_le, Int.not_lt, eqv_int, beq_iff_eq, beq_eq_false_iff_ne, ne_eq, bne_iff_ne] at hz)
  | ((with_reducible refine And.intro ?z1 ?_); (case z1 => walk_at "zl"))
  | fail)
local macro_rules | `(tactic| walk_at "z") => `(tactic| repeat' ((first | walk_at "z1" | walk_at "z2"); try dsimp only [List.set_cons_zero, List.set_cons_succ, S.add, S.nil, S.put]; try simp only [setO_head, del_mk, delO_head, delO_nil]))
local macro_rules | `(tactic| walk_at "z0") => `(tactic| simp only [start, List.map_cons, List.map_nil, List.length_cons, List.length_nil, Nat.reduceAdd, Nat.reduceSub, Nat.zero_add, Nat.sub_self, List.replicate_zero, List.replicate_succ, List.cons_append, List.nil_append, List.append_nil])
local macro_rules | `(tactic| walk_at "zp") => `(tactic| ((with_reducible refine runP_w ?h1 ?h2); (case h1 => rfl)))
local macro_rules | `(tactic| walk_at "zp") => `(tactic| ((with_reducible refine runP_of ?h1 ?h2); (case h1 => rfl)))
local macro_rules | `(tactic| walk_at "zi") => `(tactic| ((with_reducible refine runI_w ?h1 ?h2); (case h1 => rfl)))
local macro_rules | `(tactic| walk_at "zs") => `(tactic| ((first | walk_at "z1" | walk_at "z2"); try dsimp only [List.set_cons_zero, List.set_cons_succ, S.add, S.nil, S.put]; try simp only [setO_head, del_mk, delO_head, delO_nil]))
local macro_rules | `(tactic| walk_at "zr") => `(tactic| ((with_reducible refine oMul_lst ?_ ?_ ?_) <;> first | omega | (simp only [prep_len, List.length_map, List.length_append, List.length_cons, List.length_nil, List.length_reverse, List.length_replicate]; omega)))
local macro_rules | `(tactic| walk_at "ze") => `(tactic| first
  | exact rfl
  | with_reducible assumption
  | ((with_reducible refine view_get (xs := ?zxs) ?zhh); (case zhh => with_reducible assumption))
  | ((with_reducible refine view_put (u := ?zxs) ?zhh); (case zhh => with_reducible assumption))
  | ((with_reducible refine pget_put_same (u := ?zxs) ?zhh); (case zhh => with_reducible assumption))
  | fail)
local macro_rules | `(tactic| walk_at "z2") => `(tactic| first
  | ((with_reducible refine Exists.intro ?za (Exists.intro ?zb (Exists.intro ?zc (Exists.intro ?zd (Exists.intro ?ze (And.intro ?z1 (And.intro ?z2 (And.intro ?z3 (And.intro ?z4 (And.intro ?z5 ?_)))))))))); (case z1 => walk_at "ze"); (case z2 => walk_at "ze"); (case z3 => walk_at "ze"); (case z4 => walk_at "ze"); (case z5 => walk_at "zr"))
  | ((with_reducible refine Exists.intro ?za (Exists.intro ?zb (Exists.intro ?zc (Exists.intro ?zd (And.intro ?z1 (And.intro ?z2 (And.intro ?z3 ?_))))))); (case z1 => walk_at "ze"); (case z2 => walk_at "zr"); (case z3 => walk_at "zr"))
  | ((with_reducible refine Exists.intro ?za (Exists.intro ?zb (Exists.intro ?zc (And.intro ?z1 (And.intro ?z2 (And.intro ?z3 ?_)))))); (case z1 => walk_at "ze"); (case z2 => walk_at "ze"); (case z3 => walk_at "zr"))
  | ((with_reducible refine Exists.intro ?za (Exists.intro ?zb (And.intro ?z1 (And.intro ?z2 ?_)))); (case z1 => walk_at "ze"); (case z2 => first | with_reducible assumption | walk_at "zc" | walk_at "zr"))
  | ((with_reducible refine Exists.intro ?za (And.intro ?z1 ?_)); (case z1 => first | exact rfl | ((with_reducible refine asDs_star (zs := ?zq) ?zh); (case zh => exact rfl))))
  | ((with_reducible refine Or.inl (Exists.intro ?za (Exists.intro ?zb (And.intro ?z1 (And.intro ?z2 ?_))))); (case z1 => walk_at "ze"); (case z2 => walk_at "ze"))
  | with_reducible refine And.intro (fun z => absurd z (by decide)) (fun _ => ?_)
  | with_reducible refine And.intro (fun _ => ?_) (fun z => absurd z (by decide))
  | (refine And.intro (fun hz => ?_) (fun hz => ?_) <;> try simp only [decide_eq_true_eq, decide_eq_false_iff_not, Bool.not_eq_true', Bool.not_eq_false', Int.not_le, Int.not_lt, eqv_int, beq_iff_eq, beq_eq_false_iff_ne, ne_eq, bne_iff_ne] at hz)
  | ((with_reducible refine And.intro ?z1 ?_); (case z1 => walk_at "zl"))
  | fail)
local macro_rules | `(tactic| walk_at "z") => `(tactic| repeat' ((first | walk_at "z1" | walk_at "z2"); try dsimp only [List.set_cons_zero, List.set_cons_succ]))
local macro_rules | `(tactic| walk_at "zs") => `(tactic| ((first | walk_at "z1" | walk_at "z2"); try dsimp only [List.set_cons_zero, List.set_cons_succ]))
local macro_rules | `(tactic| walk_at "zc") => `(tactic| with_reducible exact is_whole_int _)
local macro_rules | `(tactic| walk_at "zc") => `(tactic| with_reducible exact is_within_int _ _ _)
local macro_rules | `(tactic| walk_at "zc") => `(tactic| (with_reducible refine size_in_ok ?_; with_reducible assumption))
local macro_rules | `(tactic| walk_at "zc") => `(tactic| (with_reducible refine lt_size_ok ?_; with_reducible assumption))
local macro_rules | `(tactic| walk_at "zc") => `(tactic| (with_reducible refine require_base_ok ?_; with_reducible assumption))
local macro_rules | `(tactic| walk_at "zc") => `(tactic| (with_reducible refine sign_size_ok ?_; with_reducible assumption))
local macro_rules | `(tactic| walk_at "zc") => `(tactic| ((with_reducible refine require_rows_ok ?_ ?_) <;> omega))
local macro_rules | `(tactic| walk_at "zc") => `(tactic| ((with_reducible refine digits_in_ok ?_ ?_ ?_) <;> omega))
local macro_rules | `(tactic| walk_at "zc") => `(tactic| ((with_reducible refine lt_digits_ok ?_ ?_ ?_) <;> omega))
local macro_rules | `(tactic| walk_at "zc") => `(tactic| ((with_reducible refine number_of_digits_ok ?_ ?_ _) <;> omega))
local macro_rules | `(tactic| walk_at "zc") => `(tactic| ((with_reducible refine many_parts_ok ?_ ?_ ?_ ?_ ?_ ?_) <;> first | with_reducible assumption | omega))
local macro_rules | `(tactic| walk_at "zc") => `(tactic| with_reducible exact lt_signs_ok)
local macro_rules | `(tactic| walk_at "zr") => `(tactic| ((with_reducible refine kIndex_sgT ?_ ?_) <;> first | with_reducible assumption | exact rfl))
local macro_rules | `(tactic| walk_at "zc") => `(tactic| ((with_reducible refine require_letter_ok _ ?_ ?_) <;> first | with_reducible assumption | omega))
local macro_rules | `(tactic| walk_at "zc") => `(tactic| ((with_reducible refine parts_in_ok ?_ ?_ ?_ ?_ ?_ _ ?_ ?_) <;> first | with_reducible assumption | omega))
local macro_rules | `(tactic| walk_at "zc") => `(tactic| ((with_reducible refine lt_parts_ok ?_ ?_ ?_ ?_ ?_ _ ?_ ?_) <;> first | with_reducible assumption | omega))
local macro_rules | `(tactic| walk_at "zc") => `(tactic| ((with_reducible refine parts_of_ok ?_ ?_ ?_ ?_ ?_ _ ?_ ?_) <;> first | with_reducible assumption | omega))
local macro_rules | `(tactic| walk_at "zr") => `(tactic| ((with_reducible refine idx_sg ?_ ?_ ?_) <;> first | omega | exact rfl))
local macro_rules | `(tactic| walk_at "zr") => `(tactic| with_reducible assumption)
local macro_rules | `(tactic| walk_at "zc") => `(tactic| (with_reducible refine joined_ok _ ?_; omega))
local macro_rules | `(tactic| walk_at "zr") => `(tactic| with_reducible exact oEq_parts _ _)
local macro_rules | `(tactic| walk_at "zr") => `(tactic| ((with_reducible refine oMul_tup ?_ ?_ ?_) <;> first | omega | (simp only [List.length_cons, List.length_nil]; omega)))
local macro_rules | `(tactic| walk_at "zc") => `(tactic| ((with_reducible refine parts_of_ok ?_ ?_ ?_ ?_ ?_ _ ?_ ?_) <;> first | with_reducible assumption | omega))
local macro_rules | `(tactic| walk_at "zr") => `(tactic| with_reducible exact oNe_law _)
local macro_rules | `(tactic| walk_at "zr") => `(tactic| with_reducible exact oNe_parts _)
local macro_rules | `(tactic| walk_at "zr") => `(tactic| with_reducible exact oNe_int _)
theorem rep_a (n : Nat) : rep n [97] = (List.replicate n 0).map sg := by
  induction n with
  | zero => rfl
  | succ n ih =>
    rw [rep, ih, List.replicate_succ, List.map_cons, show sg 0 = 97 from rfl]
    rfl
theorem rep_alt (n : Nat) : rep n [D.int 0, D.int 1] = (alt n).map D.int := by
  induction n with
  | zero => rfl
  | succ n ih =>
    have : alt (n + 1) = [0, 1] ++ alt n := by simp [alt, List.replicate_succ]
    rw [rep, ih, this, List.map_append]
    rfl
theorem alt_len (n : Nat) : (alt n).length = 2 * n := by
  induction n with
  | zero => rfl
  | succ n ih =>
    have : alt (n + 1) = [0, 1] ++ alt n := by simp [alt, List.replicate_succ]
    rw [this, List.length_append, ih]
    simp only [List.length_cons, List.length_nil]
    omega
theorem alt_bd (n : Nat) : ∀ d ∈ alt n, 0 ≤ d ∧ d < (13 : Int) := by
  intro d hd
  unfold alt at hd
  obtain ⟨x, hx, hd⟩ := List.mem_flatten.mp hd
  rw [(List.mem_replicate.mp hx).2] at hd
  simp only [List.mem_cons, List.not_mem_nil, or_false] at hd
  rcases hd with rfl | rfl <;> decide
theorem mul_alt {n : Nat} (h : n ≤ 1000) : oMul (.lst [.int 0, .int 1]) (.int (n : Int)) = some (.lst ((alt n).map .int)) := by
  rw [oMul_lst (by omega) (by omega) (by simp only [List.length_cons, List.length_nil]; omega), Int.toNat_natCast, rep_alt]
theorem cut_pts {q : Int} {m r : Nat} (hq : 0 < q) (hm : 1 ≤ m) (hr : 1 ≤ r) (ds : List Int) (hd : ∀ d ∈ ds, 0 ≤ d ∧ d < q) : Pts q m r (cutP m r ds) := by
  have h1 : 1 ≤ r * m := Nat.mul_pos hr hm
  unfold cutP
  have h4 := pad_le (n0 := ds.length) h1
  generalize (ds.length + r * m - 1) / (r * m) = K at *
  have hl : (ds ++ List.replicate (K * (r * m) - ds.length) 0).length = K * r * m := by
    rw [List.length_append, List.length_replicate, Nat.mul_assoc]
    omega
  have hd2 : ∀ d ∈ ds ++ List.replicate (K * (r * m) - ds.length) 0, 0 ≤ d ∧ d < q := by
    intro d hd3
    rcases List.mem_append.mp hd3 with hd3 | hd3
    · exact hd d hd3
    · rw [(List.mem_replicate.mp hd3).2]; omega
  intro p hp
  obtain ⟨a1, a2⟩ := chunk_mem (n := r) (k := K) (by rw [chunk_len]) p hp
  refine ⟨a1, fun w hw => ?_⟩
  obtain ⟨b1, b2⟩ := chunk_mem hl w (a2 w hw)
  exact ⟨b1, fun d hd3 => hd2 d (b2 d hd3)⟩
theorem cutP_len (m r : Nat) (ds : List Int) : (cutP m r ds).length = (ds.length + r * m - 1) / (r * m) := by
  unfold cutP
  rw [chunk_len]
/-- what is read of a row of digits, by the field of 13 to the power 6, three words a part -/
theorem read_cut {l : D} {ds : List Int} {R : Res} (hl : ds.length ≤ 1000) (hd : ∀ d ∈ ds, 0 ≤ d ∧ d < (13 : Int)) (hR : resP 13 6 3 (cutP 6 3 ds) = R) : F__law_read [fldD l 13 ((6 : Nat) : Int), .int ((3 : Nat) : Int), partsD (cutP 6 3 ds)] = .ok (lawD R) := by
  rw [← hR]
  refine law_read_ok (by decide) (by omega) (by omega) (by omega) (by omega) _ (cut_pts (by omega) (by omega) (by omega) ds hd) ?_
  rw [cutP_len]
  have := Nat.div_le_self (ds.length + 3 * 6 - 1) (3 * 6)
  omega
theorem cut_read {l : D} {ds : List Int} {R : Res} (hl : ds.length ≤ 1000) (hd : ∀ d ∈ ds, 0 ≤ d ∧ d < (13 : Int)) (hR : resP 13 6 3 (cutP 6 3 ds) = R) : ∃ P, F__law_lt_cut [.int 6, .int 3, .lst (ds.map .int)] = .ok P ∧ F__law_read [fldD l 13 6, .int 3, P] = .ok (lawD R) :=
  ⟨_, cut_ok (m := 6) (r := 3) (by omega) (by omega) (by omega) (by omega) ds (by omega), read_cut hl hd hR⟩
theorem oNe_let (ks : List Nat) : oNe (letD ks) (letD ks) = some (.bl false) := by
  unfold oNe
  have h1 : shp (letD ks) = true := by
    unfold shp
    rw [lay_let]
    rfl
  rw [h1, show eqv (letD ks) (letD ks) = true from eqv_strs _]
  rfl
def szD (x : D) : D := match x with
  | .int q => .int (sz q : Nat)
  | _ => .non
theorem szs_ok : oNe (.lst ([.int 2, .int 3, .int 5, .int 7, .int 11, .int 13].map szD)) (.lst [.int 6, .int 4, .int 3, .int 2, .int 2, .int 2]) = some (.bl false) := by rfl
theorem long_ok {l : D} : ∃ P, F_parts_of [fldD l 13 6, .int 3, letD (List.replicate 400 0)] = .ok P ∧ F_letter_of [fldD l 13 6, .int 3, P] = .ok (letD (List.replicate 400 0)) := by
  have hk : ∀ k ∈ List.replicate 400 0, k < 43 := fun k hk => by rw [(List.mem_replicate.mp hk).2]; omega
  have hl : (List.replicate 400 0).length ≤ 400 := by rw [List.length_replicate]; omega
  refine ⟨_, parts_of_ok (m := 6) (r := 3) (by decide) (by omega) (by omega) (by omega) (by omega) _ hl hk, ?_⟩
  have h := letter_of_ok (l := l) (q := 13) (m := 6) (r := 3) (by decide) (by omega) (by omega) (by omega) (by omega) (enc 13 6 3 (List.replicate 400 0)) (enc_pts (by decide) (by omega) (by omega) _) (by
    rw [enc_len, List.length_replicate]
    decide)
  rw [res1] at h
  exact h
theorem oMul_strA {a : List Nat} {k : Int} (h : 0 ≤ k) (h2 : k ≤ 1000) (h3 : a.length * k.toNat ≤ 16777216) : oMul (.str a) (.int k) = some (.str (rep k.toNat a)) := by
  show (if _ then _ else _) = _
  rw [if_pos]
  simp only [Bool.and_eq_true, decide_eq_true_eq]
  exact ⟨⟨h, by omega⟩, h3⟩
theorem mul_a : oMul (.str [97]) (.int 400) = some (letD (List.replicate 400 0)) := by
  rw [oMul_strA (by omega) (by omega) (by decide), show Int.toNat 400 = 400 from rfl, rep_a]
  rfl
def inP (x : D) : Prop := ∃ q : Int, q ∈ primes ∧ x = .int q
theorem lay_law (R : Res) : lay (lawD R) = true := by
  have := shp_law R
  unfold shp at this
  rw [Bool.and_eq_true] at this
  exact this.1
theorem depth_law (R : Res) : depth (lawD R) ≤ 2 := by
  cases R <;> exact Nat.le_of_ble_eq_true rfl
theorem eqvs_law : ∀ Rs : List Res, eqvs (Rs.map lawD) (Rs.map lawD) = true
  | [] => rfl
  | R :: Rs => by
    show (eqv (lawD R) (lawD R) && eqvs (Rs.map lawD) (Rs.map lawD)) = true
    rw [eqv_law, eqvs_law Rs]
    rfl
theorem oEq_res (Rs : List Res) : oEq (.lst (Rs.map lawD)) (.lst (Rs.map lawD)) = some (.bl true) := by
  unfold oEq
  have h1 : shp (.lst (Rs.map lawD)) = true := by
    unfold shp
    rw [Bool.and_eq_true, decide_eq_true_eq]
    refine ⟨lays_map lawD lay_law Rs, ?_⟩
    have h3 : depth (.lst (Rs.map lawD)) ≤ 3 := Nat.succ_le_succ (depths_map lawD 2 depth_law Rs)
    omega
  rw [h1, show eqv (.lst (Rs.map lawD)) (.lst (Rs.map lawD)) = true from eqvs_law Rs]
  rfl
theorem law_ok {ns : List Int} (hl : ns.length ≤ 63) : F_law [.lck ns] = .ok (.bl true) := by
  refine wR_eq ?_
  unfold F_law
  walk_at "zp"
  unfold f_law
  walk_at "z0"
  walk_at "z"
  refine wf_all (fun _ e _ => ∃ w1 w4 w5, e = [some (W.d (D.lck ns)), w1, none, none, w4, w5, none, none, none, none]) ⟨_, _, _, rfl⟩ (fun pre x post e s ha hI => ?_) (fun e s hI => ?_)
  · obtain ⟨w1, w4, w5, rfl⟩ := hI
    obtain ⟨k, hk, rfl⟩ := rangeL_mem (x := x) (by rw [ha]; simp)
    have hk3 : k < 3 := by
      revert hk
      split <;> split <;> omega
    rw [Int.zero_add]
    walk_at "z"
    refine spins_w hl hk3 fun s1 ho => ?_
    walk_at "z"
    refine wf_turns (fun _ e s' => ∃ w5, e = [some (W.d (D.lck ns)), some (W.d (D.int (k : Int))), none, none, some (.ref s.nx), w5, none, none, none, none] ∧ Ok s.nx s') ⟨_, rfl, ho⟩ (fun j x e s2 hj hx hI => ?_) (fun e s2 hI => ?_)
    · obtain ⟨w5, rfl, ho2⟩ := hI
      walk_at "z"
      refine right_w ho2 fun s3 ho3 => ?_
      walk_at "z"
      exact ho3
    · obtain ⟨w5, rfl, ho2⟩ := hI
      exact ⟨_, _, _, rfl⟩
  · obtain ⟨w1, w4, w5, rfl⟩ := hI
    have hLD := oNe_let (List.replicate 400 0)
    have hmul := mul_a
    walk_at "z1"
    walk_at "z1"
    walk_at "z1"
    refine field_w (q := 13) (by decide) 6 (by omega) (by omega) s _ _ (fun l s4 hl hkp hn4 => ?_) (by walk_at "z")
    obtain ⟨P0, hp0, hp1⟩ := long_ok (l := l)
    obtain ⟨P1, hc1, hr1⟩ := cut_read (l := l) (ds := alt 401 ++ [0, 0]) (by rw [List.length_append, alt_len]; decide) (by
      intro d hd
      rcases List.mem_append.mp hd with hd | hd
      · exact alt_bd _ d hd
      · simp only [List.mem_cons, List.not_mem_nil, or_false] at hd
        rcases hd with rfl | rfl <;> decide) res2
    obtain ⟨P2, hc2, hr2⟩ := cut_read (l := l) (ds := alt 401) (by rw [alt_len]; decide) (alt_bd _) res3
    obtain ⟨P3, hc3, hr3⟩ := cut_read (l := l) (ds := alt 400) (by rw [alt_len]; decide) (alt_bd _) res4
    obtain ⟨P4, hc4, hr4⟩ := cut_read (l := l) (ds := alt 400 ++ [7, 6]) (by rw [List.length_append, alt_len]; decide) (by
      intro d hd
      rcases List.mem_append.mp hd with hd | hd
      · exact alt_bd _ d hd
      · simp only [List.mem_cons, List.not_mem_nil, or_false] at hd
        rcases hd with rfl | rfl <;> decide) res5
    have hm1 := mul_alt (n := 401) (by omega)
    have hm2 := mul_alt (n := 400) (by omega)
    have hA1 : oAdd (.lst ((alt 401).map .int)) (.lst [.int 0, .int 0]) = some (.lst ((alt 401 ++ [0, 0]).map .int)) := by
      rw [oAdd_lst (by rw [List.length_map, alt_len]; decide), List.map_append]
      rfl
    have hA2 : oAdd (.lst ((alt 400).map .int)) (.lst [.int 7, .int 6]) = some (.lst ((alt 400 ++ [7, 6]).map .int)) := by
      rw [oAdd_lst (by rw [List.length_map, alt_len]; decide), List.map_append]
      rfl
    have hm1 : oMul (.lst [.int 0, .int 1]) (.int 401) = some (.lst ((alt 401).map .int)) := hm1
    have hm2 : oMul (.lst [.int 0, .int 1]) (.int 400) = some (.lst ((alt 400).map .int)) := hm2
    rw [show fldD l 13 ((6 : Nat) : Int) = fldD l 13 6 from rfl]
    have hfin : oEq (.lst [lawD .long, lawD .long, lawD (.lt (List.replicate 400 0)), lawD (.sign 400)]) (.lst [lawD .long, lawD .long, lawD (.lt (List.replicate 400 0)), lawD (.sign 400)]) = some (.bl true) := oEq_res [.long, .long, .lt (List.replicate 400 0), .sign 400]
    generalize (alt 401 ++ [0, 0]).map D.int = B1 at *
    generalize (alt 400 ++ [7, 6]).map D.int = B4 at *
    generalize (alt 401).map D.int = B2 at *
    generalize (alt 400).map D.int = B3 at *
    rw [show lawD (.lt (List.replicate 400 0)) = .tup [.str tx0, letD (List.replicate 400 0)] from rfl] at *
    generalize letD (List.replicate 400 0) = LD at *
    generalize fldD l 13 6 = FD at *
    walk_at "z"
    refine wp_lcMap szD (fun x hx => ?_) ?_
    · obtain ⟨q, hq, rfl⟩ : inP x := by
        simp only [List.mem_cons, List.not_mem_nil, or_false] at hx
        rcases hx with rfl | rfl | rfl | rfl | rfl | rfl <;> exact ⟨_, by decide, rfl⟩
      have := sign_size_ok hq
      walk_at "z"
    · have hsz := szs_ok
      have hszl : (([.int 2, .int 3, .int 5, .int 7, .int 11, .int 13] : List D).map szD).length ≤ LIM := by decide
      generalize ([.int 2, .int 3, .int 5, .int 7, .int 11, .int 13] : List D).map szD = SZ at *
      have hadd : (s4.add (.lst [lawD .long, lawD .long, .tup [.str tx0, LD]])).get s4.nx = some (.lst [lawD .long, lawD .long, .tup [.str tx0, LD]]) := pget_add_same
      refine ⟨hszl, ?_⟩
      walk_at "z"
      refine wp_lcCons ?_
      walk_at "z"
      refine wp_lcCons ?_
      walk_at "z"
      refine wp_lcCons ?_
      walk_at "z"
      refine wp_lcNil ?_
      walk_at "z"
      exact ⟨_, _, _, view_put hadd, rfl, hfin, _, rfl, rfl⟩
end K85
end

set_option Elab.async false
set_option maxRecDepth 100000 in
set_option maxHeartbeats 8000000 in
theorem PySem.Challenge.cw_rowsthrough_k85_whole_letters_and_parts_holds : PySem.Challenge.rw_rowsthrough_k85_whole_letters_and_parts.Holds := by
  exact K85.holds_of fun _ h => K85.law_ok h
