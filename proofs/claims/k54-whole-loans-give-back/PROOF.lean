import PyProof.Rows.All
import Wide.All
import OpenK.AllK
import Wide.FinOn
import HandS.ForMost
import HandS.ForExc
import HandS.TupAny
import HandS.CallSlots
import HandS.Flow
import HandS.Style
import HandS.Wide
import KE.DataEq
import HandS.IsInst
import HandS.Defaults
import HandS.Iter
import HandS.Zip
import KE.GoesZip
import KE.GoesMore
import KE.GoesEnum
import HandS.SortInts
import HandS.TryOnly
import HandS.ExcIs
import HandS.ExcOwn
import HandS.HeadHook1
import HandS.HeadHook2
import PyProof.TupleOfSeq
import HandS.ExcValue
import HandS.Dict
import HandS.More
import HandS.HeadHook3
import KE.KIsAll
import HandS.List
import KE.KExcPX
import KE.KOpsOwn
import HandS.Flt
import HandS.NoneIn
import HandS.Codes
import HandS.Property
import KE.KStateDown
import Lean
import HandS.Text
import HandS.DictTup
import HandS.FStr
import HandS.StrMore
import HandS.TryMany
import HandS.RaiseFrom
import HandS.SuiteRaise
import HandS.Head0
import HandS.Head1
import HandS.Head2
import HandS.HeadEnd
import PySem.Challenge.RW_brimful_k54_whole_loans_give_back
section
set_option Elab.async false
set_option linter.all false
set_option maxRecDepth 100000
set_option maxHeartbeats 2000000
/-! DI1: plain data, the data heap, what expressions and statements do to them. -/
namespace DI
open PySem L2

inductive D where
  | non | bl (b : Bool) | int (i : Int) | str (x : Str)
  | tup (ds : List D) | fl (ds : List D) | ref (i : Nat)

/-- a mutable thing -/
inductive O where
  | lst (ds : List D) | dic (kvs : List (Str × D)) | dct (kvs : List (List D × D)) | ins (c : Str) (fs : List (Str × D))

abbrev Hd := List O
abbrev Ev := List (Option D)
/-- an outcome: a value, or an own exception by its class's name -/
inductive Rs (α : Type) where
  | ok (a : α) (M : Hd) | er (c : Str) (M : Hd)
abbrev EF := Ev → Hd → Option (Rs D)
abbrev TF := Ev → Hd → Option (Rs Bool)
abbrev AF := Ev → Hd → Option (Rs (List D))
inductive Fl where
  | nx (r : Ev) | rt (d : D) | bk (r : Ev) | ct (r : Ev) | xx (c : Str) (r : Ev)
abbrev SF := Ev → Hd → Option (Fl × Hd)

def bnd {α β : Type} (x : Option (Rs α)) (k : α → Hd → Option (Rs β)) : Option (Rs β) := match x with
  | some (.ok a M) => k a M
  | some (.er c M) => some (.er c M)
  | none => none
@[simp] theorem bnd_ok {α β : Type} (a : α) (M : Hd) (k : α → Hd → Option (Rs β)) : bnd (some (.ok a M)) k = k a M := rfl
@[simp] theorem bnd_er {α β : Type} (c : Str) (M : Hd) (k : α → Hd → Option (Rs β)) : bnd (some (.er c M)) k = some (.er c M) := rfl
@[simp] theorem bnd_none {α β : Type} (k : α → Hd → Option (Rs β)) : bnd none k = none := rfl
/-- an expression's outcome within a statement -/
def exB {α : Type} (x : Option (Rs α)) (r : Ev) (k : α → Hd → Option (Fl × Hd)) : Option (Fl × Hd) := match x with
  | some (.ok a M) => k a M
  | some (.er c M) => some (.xx c r, M)
  | none => none
@[simp] theorem exB_ok {α : Type} (a : α) (M : Hd) (r : Ev) (k : α → Hd → Option (Fl × Hd)) : exB (some (.ok a M)) r k = k a M := rfl
@[simp] theorem exB_er {α : Type} (c : Str) (M : Hd) (r : Ev) (k : α → Hd → Option (Fl × Hd)) : exB (some (.er c M) : Option (Rs α)) r k = some (.xx c r, M) := rfl
@[simp] theorem exB_none {α : Type} (r : Ev) (k : α → Hd → Option (Fl × Hd)) : exB (none : Option (Rs α)) r k = none := rfl
/-- a pure outcome -/
def pr {α : Type} (M : Hd) (x : Option α) : Option (Rs α) := match x with
  | some a => some (.ok a M)
  | none => none
@[simp] theorem pr_some {α : Type} (M : Hd) (a : α) : pr M (some a) = some (.ok a M) := rfl
@[simp] theorem pr_none {α : Type} (M : Hd) : pr M (none : Option α) = none := rfl
/-- a thing of the heap -/
def at? (M : Hd) (i : Nat) : Option O := M[i]?

/-! ### expressions -/
def eVar (i : Nat) : EF := fun r M => match r[i]? with
  | some (some d) => some (.ok d M)
  | _ => none
def eC (d : D) : EF := fun _ M => some (.ok d M)
abbrev G2 := D → D → Hd → Option (Rs D)
def eOp (g : G2) (fa fb : EF) : EF := fun r M => bnd (fa r M) fun x M1 => bnd (fb r M1) fun y M2 => g x y M2
def eUn (g : D → Hd → Option (Rs D)) (fa : EF) : EF := fun r M => bnd (fa r M) fun x M1 => g x M1
def eCall (m : List D → Hd → Option (Rs D)) (fa : AF) : EF := fun r M => bnd (fa r M) fun ds M1 => m ds M1
def aNil : AF := fun _ M => some (.ok [] M)
def aCons (f : EF) (g : AF) : AF := fun r M => bnd (f r M) fun d M1 => bnd (g r M1) fun ds M2 => some (.ok (d :: ds) M2)
def eTup (fa : AF) : EF := fun r M => bnd (fa r M) fun ds M1 => if ds.length ≤ 16777216 then some (.ok (.tup ds) M1) else none
def eLst (fa : AF) : EF := fun r M => bnd (fa r M) fun ds M1 => if ds.length ≤ 16777216 then some (.ok (.ref M1.length) (M1 ++ [.lst ds])) else none
def eIf (t : TF) (fa fb : EF) : EF := fun r M => bnd (t r M) fun b M1 => if b = true then fa r M1 else fb r M1
/-- two comparisons in a chain -/
def eChain (g g' : G2) (fa fb fc : EF) : EF := fun r M => bnd (fa r M) fun x M1 => bnd (fb r M1) fun y M2 => bnd (g x y M2) fun z M3 => match z with
  | .bl true => bnd (fc r M3) fun u M4 => g' y u M4
  | .bl false => some (.ok (.bl false) M3)
  | _ => none
/-- tests -/
def bOf (d : D) (M : Hd) : Option (Rs Bool) := match d with
  | .bl b => some (.ok b M)
  | _ => none
def tVal (f : EF) : TF := fun r M => bnd (f r M) bOf
def truD (d : D) (M : Hd) : Option (Rs Bool) := match d with
  | .non => some (.ok false M)
  | .bl b => some (.ok b M)
  | .int i => some (.ok (i != 0) M)
  | .str x => if x.length ≤ 16777216 then some (.ok ((x.length : Int) != 0) M) else none
  | .tup ds => some (.ok (!ds.isEmpty) M)
  | .fl ds => some (.ok (!ds.isEmpty) M)
  | .ref i => match M[i]? with
    | some (.lst ds) => some (.ok (!ds.isEmpty) M)
    | _ => none
def tTru (f : EF) : TF := fun r M => bnd (f r M) truD
def tAnd (t u : TF) : TF := fun r M => bnd (t r M) fun b M1 => if b = true then u r M1 else some (.ok false M1)
def tOr (t u : TF) : TF := fun r M => bnd (t r M) fun b M1 => if b = true then some (.ok true M1) else u r M1
def tNot (t : TF) : TF := fun r M => bnd (t r M) fun b M1 => some (.ok (!b) M1)
/-- and, or, not as values -/
def eAnd (f g : EF) : EF := fun r M => bnd (f r M) fun d M1 => match d with
  | .bl true => g r M1
  | .bl false => some (.ok (.bl false) M1)
  | _ => none
def eOr (f g : EF) : EF := fun r M => bnd (f r M) fun d M1 => match d with
  | .bl true => some (.ok (.bl true) M1)
  | .bl false => g r M1
  | _ => none
def eNot (f : EF) : EF := fun r M => bnd (f r M) fun d M1 => match d with
  | .bl b => some (.ok (.bl (!b)) M1)
  | _ => none

/-! ### operators on data -/
def addG : G2 := fun x y M => match x, y with
  | .int a, .int b => some (.ok (.int (a + b)) M)
  | .str a, .str b => if a.length + b.length ≤ 16777216 then some (.ok (.str (a ++ b)) M) else none
  | .tup a, .tup b => if a.length + b.length ≤ 16777216 then some (.ok (.tup (a ++ b)) M) else none
  | .ref i, .ref j => match M[i]?, M[j]? with
    | some (.lst a), some (.lst b) => if a.length + b.length ≤ 16777216 then some (.ok (.ref M.length) (M ++ [.lst (a ++ b)])) else none
    | _, _ => none
  | _, _ => none
def addIG : G2 := fun x y M => match x, y with
  | .int a, .int b => some (.ok (.int (a + b)) M)
  | _, _ => none
def CMul2 (i j : Int) : Prop := (-(2 ^ 64) < i ∧ i < 2 ^ 64) ∨ (-(2 ^ 64) < j ∧ j < 2 ^ 64)
open Classical in
noncomputable def mulIG : G2 := fun x y M => match x, y with
  | .int a, .int b => if CMul2 a b then some (.ok (.int (a * b)) M) else none
  | _, _ => none
def subG : G2 := fun x y M => match x, y with
  | .int a, .int b => some (.ok (.int (a - b)) M)
  | _, _ => none
def MulOk (a b : Int) : Prop := (-(2 ^ 64) < a ∧ a < 2 ^ 64) ∨ (-(2 ^ 64) < b ∧ b < 2 ^ 64) ∨ a.natAbs.log2 + b.natAbs.log2 < 1000000
open Classical in
noncomputable def mulG : G2 := fun x y M => match x, y with
  | .int a, .int b => if MulOk a b then some (.ok (.int (a * b)) M) else none
  | _, _ => none
def divG : G2 := fun x y M => match x, y with
  | .int a, .int b => if 0 < b ∧ b.natAbs.log2 < 9000 then some (.ok (.int (a / b)) M) else none
  | _, _ => none
def modG : G2 := fun x y M => match x, y with
  | .int a, .int b => if 0 < b then some (.ok (.int (a % b)) M) else none
  | _, _ => none
def powG : G2 := fun x y M => match x, y with
  | .int a, .int b => if 0 ≤ b ∧ b ≤ 1000000 ∧ a.natAbs < 2 ^ 64 then some (.ok (.int (a ^ b.toNat)) M) else none
  | _, _ => none
def shlG : G2 := fun x y M => match x, y with
  | .int a, .int b => if 0 ≤ b ∧ b ≤ 1000000 ∧ a.natAbs < 2 ^ 64 then some (.ok (.int (a * 2 ^ b.toNat)) M) else none
  | _, _ => none
def negG : D → Hd → Option (Rs D) := fun x M => match x with
  | .int a => some (.ok (.int (-a)) M)
  | _ => none
def ltG : G2 := fun x y M => match x, y with
  | .int a, .int b => some (.ok (.bl (decide (a < b))) M)
  | _, _ => none
def leG : G2 := fun x y M => match x, y with
  | .int a, .int b => some (.ok (.bl (decide (a ≤ b))) M)
  | _, _ => none
def gtG : G2 := fun x y M => match x, y with
  | .int a, .int b => some (.ok (.bl (decide (b < a))) M)
  | _, _ => none
def geG : G2 := fun x y M => match x, y with
  | .int a, .int b => some (.ok (.bl (decide (b ≤ a))) M)
  | _, _ => none
/-- data without identity, for == (n: how deep) -/
def toP (M : Hd) : Nat → D → Option PyData
  | _, .non => some .none
  | _, .bl b => some (.bool b)
  | _, .int i => some (.int i)
  | _, .str x => some (.str x)
  | n + 1, .tup ds => (ds.mapM (toP M n)).map .tuple
  | n + 1, .fl ds => (ds.mapM (toP M n)).map .list
  | n + 1, .ref i => (match M[i]? with
    | some (.lst ds) => (ds.mapM (toP M n)).map .list
    | _ => none)
  | _, _ => none
def eqG : G2 := fun x y M => match x, y with
  | .int a, .int b => some (.ok (.bl (a == b)) M)
  | .str a, .str b => some (.ok (.bl (a == b)) M)
  | x, y => match toP M 9 x, toP M 9 y with
    | some d, some e => some (.ok (.bl (PyData.eqv d e)) M)
    | _, _ => none
def neG : G2 := fun x y M => match x, y with
  | .int a, .int b => some (.ok (.bl (!(a == b))) M)
  | .str a, .str b => some (.ok (.bl (!(a == b))) M)
  | x, y => match toP M 9 x, toP M 9 y with
    | some d, some e => some (.ok (.bl (!PyData.eqv d e)) M)
    | _, _ => none
def D.isNon : D → Bool
  | .non => true
  | _ => false
def isN (f : EF) : EF := fun r M => bnd (f r M) fun d M1 => some (.ok (.bl d.isNon) M1)
def isNN (f : EF) : EF := fun r M => bnd (f r M) fun d M1 => some (.ok (.bl (!d.isNon)) M1)
/-- len -/
def lenD : D → Hd → Option (Rs D) := fun x M => match x with
  | .str y => if y.length ≤ 16777216 then some (.ok (.int y.length) M) else none
  | .tup ds => some (.ok (.int ds.length) M)
  | .fl ds => some (.ok (.int ds.length) M)
  | .ref i => match M[i]? with
    | some (.lst ds) => some (.ok (.int ds.length) M)
    | _ => none
  | _ => none
/-- the items of a list or tuple -/
def itemsD (x : D) (M : Hd) : Option (List D) := match x with
  | .tup ds => some ds
  | .fl ds => some ds
  | .ref i => match M[i]? with
    | some (.lst ds) => some ds
    | _ => none
  | _ => none
/-- x[i] of a list, a tuple, a text -/
def ixG : G2 := fun x y M => match y with
  | .int i => (match x with
    | .tup ds => pr M (atI ds i)
    | .fl ds => pr M (atI ds i)
    | .ref p => (match M[p]? with
      | some (.lst ds) => pr M (atI ds i)
      | _ => none)
    | .str z => if z.length ≤ 16777216 then pr M ((atI z.cps.toList i).map fun c => .str ⟨#[c]⟩) else none
    | _ => none)
  | _ => none

/-- types -/
inductive Ty where
  | non | bl | int | str | tup | lst | dct
  deriving DecidableEq
def Ty.nm : Ty → String
  | .non => "NoneType" | .bl => "bool" | .int => "int" | .str => "str" | .tup => "tuple" | .lst => "list" | .dct => "dict"
def Ty.sub : Ty → Ty → Bool
  | .bl, .int => true
  | .non, .non => true | .bl, .bl => true | .int, .int => true | .str, .str => true | .tup, .tup => true | .lst, .lst => true | .dct, .dct => true
  | _, _ => false
def tyD (d : D) (M : Hd) : Option Ty := match d with
  | .non => some .non
  | .bl _ => some .bl
  | .int _ => some .int
  | .str _ => some .str
  | .tup _ => some .tup
  | .fl _ => some .lst
  | .ref i => match M[i]? with
    | some (.lst _) => some .lst
    | some (.dic _) => some .dct
    | some (.dct _) => some .dct
    | _ => none
def isiG (T : Ty) : D → Hd → Option (Rs D) := fun d M => match tyD d M with
  | some t => some (.ok (.bl (t.sub T)) M)
  | none => none
/-- list(x), tuple(x) -/
def listG : D → Hd → Option (Rs D) := fun d M => match itemsD d M with
  | some ds => some (.ok (.ref M.length) (M ++ [.lst ds]))
  | none => none
def tupleG : D → Hd → Option (Rs D) := fun d M => match d with
  | .tup ds => some (.ok (.tup ds) M)
  | .fl ds => some (.ok (.tup ds) M)
  | .ref i => (match M[i]? with
    | some (.lst ds) => some (.ok (.tup ds) M)
    | _ => none)
  | _ => none
def max2 : List D → Hd → Option (Rs D) := fun ds M => match ds with
  | [.int i, .int j] => some (.ok (.int (if j > i then j else i)) M)
  | _ => none
def min2 : List D → Hd → Option (Rs D) := fun ds M => match ds with
  | [.int i, .int j] => some (.ok (.int (if j < i then j else i)) M)
  | _ => none
/-- x.m(..) of a list -/
def eLm (g : Nat → List D → List D → Hd → Option (Rs D)) (fo : EF) (fa : AF) : EF := fun r M => bnd (fo r M) fun x M1 => match x with
  | .ref i => (match M1[i]? with
    | some (.lst _) => bnd (fa r M1) fun as M2 => (match M2[i]? with
      | some (.lst ds) => g i ds as M2
      | _ => none)
    | _ => none)
  | _ => none
def appendG (i : Nat) (ds as : List D) (M : Hd) : Option (Rs D) := match as with
  | [y] => if ds.length < 16777216 then some (.ok .non (M.set i (.lst (ds ++ [y])))) else none
  | _ => none
def popG (i : Nat) (ds as : List D) (M : Hd) : Option (Rs D) := match as, ds[ds.length - 1]? with
  | [], some y => some (.ok y (M.set i (.lst ds.dropLast)))
  | _, _ => none
def extendG (i : Nat) (ds as : List D) (M : Hd) : Option (Rs D) := match as with
  | [.ref j] => (match M[j]? with
    | some (.lst es) => if ds.length + es.length ≤ 16777216 then some (.ok .non (M.set i (.lst (ds ++ es)))) else none
    | _ => none)
  | _ => none
/-- slices -/
abbrev OF := Ev → Hd → Option (Rs (Option Int))
def oNone : OF := fun _ M => some (.ok none M)
def oSome (f : EF) : OF := fun r M => bnd (f r M) fun d M1 => match d with
  | .int i => some (.ok (some i) M1)
  | _ => none
def cutD {α : Type} (xs : List α) (lo hi : Option Int) : List α := (xs.drop (HT.sIx xs.length 0 lo)).take (HT.sIx xs.length xs.length hi - HT.sIx xs.length 0 lo)
def sliceD (d : D) (lo hi : Option Int) (M : Hd) : Option (Rs D) := match d with
  | .tup ds => some (.ok (.tup (cutD ds lo hi)) M)
  | .fl ds => some (.ok (.ref M.length) (M ++ [.lst (cutD ds lo hi)]))
  | .ref i => (match M[i]? with
    | some (.lst ds) => some (.ok (.ref M.length) (M ++ [.lst (cutD ds lo hi)]))
    | _ => none)
  | _ => none
def eSl (f : EF) (lo hi : OF) : EF := fun r M => bnd (f r M) fun d M1 => bnd (lo r M1) fun l M2 => bnd (hi r M2) fun h M3 => sliceD d l h M3
/-- x[::-1] -/
def revG : D → Hd → Option (Rs D) := fun d M => match d with
  | .fl ds => some (.ok (.ref M.length) (M ++ [.lst ds.reverse]))
  | .ref i => (match M[i]? with
    | some (.lst ds) => some (.ok (.ref M.length) (M ++ [.lst ds.reverse]))
    | _ => none)
  | _ => none
def eCB (g : List D → Hd → Option (Rs D)) (fa : AF) : EF := fun r M => bnd (fa r M) fun ds M1 => g ds M1

/-! ### statements -/
def sNil : SF := fun r M => some (.nx r, M)
def sSeq (f g : SF) : SF := fun r M => match f r M with
  | some (.nx r1, M1) => g r1 M1
  | o => o
def sAsg (i : Nat) (f : EF) : SF := fun r M => exB (f r M) r fun d M1 => some (.nx (r.set i (some d)), M1)
def sPar (i j : Nat) (f g : EF) : SF := fun r M => exB (f r M) r fun d M1 => exB (g r M1) r fun e M2 => some (.nx ((r.set i (some d)).set j (some e)), M2)
def sAug (g : G2) (i : Nat) (f : EF) : SF := fun r M => match r[i]? with
  | some (some d) => exB (f r M) r fun e M1 => exB (g d e M1) r fun z M2 => some (.nx (r.set i (some z)), M2)
  | _ => none
def sDrop (f : EF) : SF := fun r M => exB (f r M) r fun _ M1 => some (.nx r, M1)
def sRet (f : EF) : SF := fun r M => exB (f r M) r fun d M1 => some (.rt d, M1)
def sRetN : SF := fun _ M => some (.rt .non, M)
def sIf (t : TF) (f g : SF) : SF := fun r M => exB (t r M) r fun b M1 => if b = true then f r M1 else g r M1
def sBreak : SF := fun r M => some (.bk r, M)
def sCont : SF := fun r M => some (.ct r, M)
def sRaise (c : Str) : SF := fun r M => some (.xx c r, M)

/-- o[i] = e (e first) -/
def sSetI (f fo fi : EF) : SF := fun r M => exB (f r M) r fun d M1 => exB (fo r M1) r fun o M2 => exB (fi r M2) r fun i M3 => match o, i with
  | .ref p, .int j => (match M3[p]? with
    | some (.lst ds) => (match ixN ds.length j with
      | some n => some (.nx r, M3.set p (.lst (ds.set n d)))
      | none => none)
    | _ => none)
  | _, _ => none

/-! ### targets -/
inductive Tg where
  | nm (i : Nat) | tp (l : List Nat)
def setAll : List Nat → List D → Ev → Option Ev
  | [], [], r => some r
  | i :: is, d :: ds, r => setAll is ds (r.set i (some d))
  | _, _, _ => none
def Tg.put (t : Tg) (d : D) (r : Ev) : Option Ev := match t with
  | .nm i => some (r.set i (some d))
  | .tp l => match d with
    | .tup ds => setAll l ds r
    | _ => none
def Tg.sl : Tg → List Nat
  | .nm i => [i]
  | .tp l => l
def sAsgT (l : List Nat) (f : EF) : SF := fun r M => exB (f r M) r fun d M1 => match (Tg.tp l).put d r with
  | some r1 => some (.nx r1, M1)
  | none => none

/-! ### loops -/
abbrev Gd := List (Nat × List D)
/-- the lists that are walked stand as they stood -/
def Still (gs : Gd) (M : Hd) : Prop := ∀ p ∈ gs, M[p.1]? = some (.lst p.2)
@[simp] theorem still_nil (M : Hd) : Still [] M ↔ True := ⟨fun _ => trivial, fun _ _ h => nomatch h⟩
@[simp] theorem still_one (p : Nat × List D) (gs : Gd) (M : Hd) : Still (p :: gs) M ↔ (M[p.1]? = some (.lst p.2) ∧ Still gs M) := by
  unfold Still
  simp only [List.forall_mem_cons]
abbrev IF := Ev → Hd → Option (Rs (List D × Gd))
open Classical in
noncomputable def forL (gs : Gd) (t : Tg) (g : SF) : List D → SF
  | [], r, M => if Still gs M then some (.nx r, M) else none
  | d :: ds, r, M => if Still gs M then (match t.put d r with
    | none => none
    | some r1 => match g r1 M with
      | some (.nx r2, M2) => forL gs t g ds r2 M2
      | some (.ct r2, M2) => forL gs t g ds r2 M2
      | some (.bk r2, M2) => some (.nx r2, M2)
      | o => o) else none
noncomputable def sFor (f : IF) (t : Tg) (g : SF) : SF := fun r M => exB (f r M) r fun p M1 => forL p.2 t g p.1 r M1
/-- items of a list or tuple, for a loop -/
def seqI (f : EF) : IF := fun r M => bnd (f r M) fun d M1 => match d with
  | .tup ds => some (.ok (ds, []) M1)
  | .fl ds => some (.ok (ds, []) M1)
  | .ref i => (match M1[i]? with
    | some (.lst ds) => some (.ok (ds, [(i, ds)]) M1)
    | _ => none)
  | _ => none
def intsD (lo : Int) (n : Nat) : List D := (List.range n).map fun (i : Nat) => D.int (lo + (i : Int))
def Sm (i : Int) : Prop := -(2 ^ 62) ≤ i ∧ i < 2 ^ 62
noncomputable instance (i : Int) : Decidable (Sm i) := Classical.propDecidable _
noncomputable def rng1 (f : EF) : IF := fun r M => bnd (f r M) fun d M1 => match d with
  | .int n => if Sm n then some (.ok (intsD 0 n.toNat, []) M1) else none
  | _ => none
noncomputable def rng2 (f g : EF) : IF := fun r M => bnd (f r M) fun d M1 => bnd (g r M1) fun e M2 => match d, e with
  | .int a, .int n => if Sm a ∧ Sm n then some (.ok (intsD a (n - a).toNat, []) M2) else none
  | _, _ => none
/-- while: n turns at most -/
def wIter (t : TF) (g : SF) : Nat → SF
  | 0, _, _ => none
  | n + 1, r, M => exB (t r M) r fun b M1 => if b = true then (match g r M1 with
    | some (.nx r2, M2) => wIter t g n r2 M2
    | some (.ct r2, M2) => wIter t g n r2 M2
    | some (.bk r2, M2) => some (.nx r2, M2)
    | o => o) else some (.nx r, M1)
open Classical in
noncomputable def sWhile (t : TF) (g : SF) : SF := fun r M => if h : ∃ n, (wIter t g n r M).isSome then wIter t g h.choose r M else none
theorem wIter_mono {t : TF} {g : SF} : ∀ {n k : Nat} {r : Ev} {M : Hd} {o : Fl × Hd}, n ≤ k → wIter t g n r M = some o → wIter t g k r M = some o
  | 0, _, _, _, _, _, h => nomatch h
  | n + 1, 0, _, _, _, hk, _ => absurd hk (Nat.not_succ_le_zero n)
  | n + 1, k + 1, r, M, o, hk, h => by
    unfold wIter at h ⊢
    cases e : t r M with
    | none => rw [e] at h; exact nomatch h
    | some x =>
      cases x with
      | er c M1 => rw [e] at h; exact h
      | ok b M1 =>
        rw [e] at h
        cases b with
        | false => exact h
        | true =>
          simp only [exB_ok, if_true] at h ⊢
          cases e2 : g r M1 with
          | none => rw [e2] at h; exact nomatch h
          | some p =>
            obtain ⟨f, M2⟩ := p
            rw [e2] at h
            cases f with
            | nx r2 => exact wIter_mono (Nat.le_of_succ_le_succ hk) h
            | ct r2 => exact wIter_mono (Nat.le_of_succ_le_succ hk) h
            | bk r2 => exact h
            | rt d => exact h
            | xx c r2 => exact h
theorem sWhile_of {t : TF} {g : SF} {n : Nat} {r : Ev} {M : Hd} {o : Fl × Hd} (h : wIter t g n r M = some o) : sWhile t g r M = some o := by
  have he : ∃ n, (wIter t g n r M).isSome := ⟨n, by rw [h]; rfl⟩
  unfold sWhile
  rw [dif_pos he]
  obtain ⟨o', h'⟩ := Option.isSome_iff_exists.mp he.choose_spec
  rw [h']
  rcases Nat.le_total n he.choose with hl | hl
  · rw [wIter_mono hl h] at h'; exact h'.symm
  · rw [wIter_mono hl h'] at h; exact h
theorem of_sWhile {t : TF} {g : SF} {r : Ev} {M : Hd} {o : Fl × Hd} (h : sWhile t g r M = some o) : ∃ n, wIter t g n r M = some o := by
  unfold sWhile at h
  split at h
  · rename_i he
    exact ⟨_, h⟩
  · cases h
/-- a while by a word and a measure -/
theorem while_rule {t : TF} {g : SF} {Q : Fl × Hd → Prop} (P : Nat → Ev → Hd → Prop)
    (hs : ∀ n r M, P n r M → (∃ M1, t r M = some (.ok false M1) ∧ Q (.nx r, M1)) ∨ (∃ M1 o, t r M = some (.ok true M1) ∧ g r M1 = some o ∧
      match o with
      | (.nx r2, M2) => ∃ k, k < n ∧ P k r2 M2
      | (.ct r2, M2) => ∃ k, k < n ∧ P k r2 M2
      | (.bk r2, M2) => Q (.nx r2, M2)
      | o => Q o)) : ∀ n r M, P n r M → ∃ o, sWhile t g r M = some o ∧ Q o := by
  have key : ∀ n, ∀ k, k ≤ n → ∀ r M, P k r M → ∃ o, wIter t g (n + 1) r M = some o ∧ Q o := by
    intro n
    induction n with
    | zero =>
      intro k hk r M hp
      obtain rfl : k = 0 := by omega
      rcases hs 0 r M hp with ⟨M1, e, q⟩ | ⟨M1, o, e, e2, q⟩
      · exact ⟨_, by unfold wIter; rw [e]; rfl, q⟩
      · unfold wIter
        rw [e]
        simp only [exB_ok, if_true]
        rw [e2]
        obtain ⟨f, M2⟩ := o
        cases f with
        | nx r2 => obtain ⟨k, hk, _⟩ := q; omega
        | ct r2 => obtain ⟨k, hk, _⟩ := q; omega
        | bk r2 => exact ⟨_, rfl, q⟩
        | rt d => exact ⟨_, rfl, q⟩
        | xx c r2 => exact ⟨_, rfl, q⟩
    | succ n ih =>
      intro k hk r M hp
      rcases hs k r M hp with ⟨M1, e, q⟩ | ⟨M1, o, e, e2, q⟩
      · exact ⟨_, by unfold wIter; rw [e]; rfl, q⟩
      · unfold wIter
        rw [e]
        simp only [exB_ok, if_true]
        rw [e2]
        obtain ⟨f, M2⟩ := o
        cases f with
        | nx r2 => obtain ⟨j, hj, p⟩ := q; exact ih j (by omega) r2 M2 p
        | ct r2 => obtain ⟨j, hj, p⟩ := q; exact ih j (by omega) r2 M2 p
        | bk r2 => exact ⟨_, rfl, q⟩
        | rt d => exact ⟨_, rfl, q⟩
        | xx c r2 => exact ⟨_, rfl, q⟩
  intro n r M hp
  obtain ⟨o, h, q⟩ := key n n (Nat.le_refl _) r M hp
  exact ⟨o, sWhile_of h, q⟩

/-! ### comprehensions -/
/-- the slots of the block's own names forgotten -/
def wip (r : Ev) : List Nat → Ev
  | [] => r
  | v :: vs => (wip r vs).set v none
open Classical in
noncomputable def lcL (gs : Gd) (n : Nat) (t : Tg) (c : TF) (f : EF) (r : Ev) : List D → Hd → Option Hd
  | [], M => if Still gs M then some M else none
  | d :: ds, M => if Still gs M then (match t.put d r with
    | none => none
    | some r1 => match c r1 M with
      | some (.ok true M1) => (match f r1 M1 with
        | some (.ok x M2) => (match M2[n]? with
          | some (.lst acc) => if acc.length < 16777216 then lcL gs n t c f r ds (M2.set n (.lst (acc ++ [x]))) else none
          | _ => none)
        | _ => none)
      | some (.ok false M1) => lcL gs n t c f r ds M1
      | _ => none) else none
noncomputable def eLc (it : IF) (t : Tg) (c : TF) (f : EF) (own : List Nat) : EF := fun r M => bnd (it r M) fun p M1 => match lcL p.2 M1.length t c f (wip r own) p.1 (M1 ++ [.lst []]) with
  | some M2 => some (.ok (.ref M1.length) M2)
  | none => none
def tYes : TF := fun _ M => some (.ok true M)

/-! ### a def -/
def startD (n : Nat) (ds : List D) : Ev := ds.map some ++ List.replicate (n - ds.length) none
/-- n names, k parameters -/
def mir (n k : Nat) (g : SF) : List D → Hd → Option (Rs D) := fun ds M => if ds.length = k then (match g (startD n ds) M with
  | some (.rt d, M1) => some (.ok d M1)
  | some (.nx _, M1) => some (.ok .non M1)
  | some (.xx c _, M1) => some (.er c M1)
  | _ => none) else none
end DI

end

section
set_option Elab.async false
set_option linter.all false
set_option maxRecDepth 100000
set_option maxHeartbeats 4000000
/-! DI2: expressions and statements do what DI1 says. -/
namespace DI
open PySem PySem.Spec PyProof.Rows L2

/-! ### data and values -/
mutual
def Rep (K : PySem.W.Frag) (p : List Addr) (H : Hp) : D → V → Prop
  | .non, v => v = .non
  | .bl b, v => v = .bl b
  | .int i, v => v = .int i
  | .str x, v => v = .str x
  | .tup ds, v => ∃ a vs, v = .ref a ∧ SqT K H a vs ∧ Reps K p H ds vs
  | .fl ds, v => ∃ a vs, v = .ref a ∧ ((∃ o, H a = some (.frz o (.lst vs))) ∨ ∀ H', SqL K H' a vs) ∧ Reps K p H ds vs
  | .ref i, v => ∃ a, p[i]? = some a ∧ v = .ref a
def Reps (K : PySem.W.Frag) (p : List Addr) (H : Hp) : List D → List V → Prop
  | [], vs => vs = []
  | d :: ds, vs => ∃ v ws, vs = v :: ws ∧ Rep K p H d v ∧ Reps K p H ds ws
end
/-- tuples and frozen things stay -/
structure Le (H H' : Hp) : Prop where
  t : ∀ a vs, H a = some (.tup vs) → H' a = some (.tup vs)
  f : ∀ a o u, H a = some (.frz o u) → H' a = some (.frz o u)
theorem Le.refl (H : Hp) : Le H H := ⟨fun _ _ h => h, fun _ _ _ h => h⟩
theorem Le.trans {A B C : Hp} (h : Le A B) (k : Le B C) : Le A C := ⟨fun a v q => k.t a v (h.t a v q), fun a o u q => k.f a o u (h.f a o u q)⟩
theorem Le.new {H : Hp} {a : Addr} {o : HO} (h : H a = none) : Le H (upd H a o) :=
  ⟨fun b v q => by rw [upd_ne (ne_of_none q h)]; exact q, fun b v u q => by rw [upd_ne (ne_of_none q h)]; exact q⟩
theorem Le.sqT {K : PySem.W.Frag} {H H' : Hp} (h : Le H H') {a : Addr} {vs : List V} (q : SqT K H a vs) : SqT K H' a vs := by
  rcases q with (q | ⟨o, q⟩) | q
  · exact .inl (.inl (h.t _ _ q))
  · exact .inl (.inr ⟨o, h.f _ _ _ q⟩)
  · exact .inr q
mutual
theorem Rep.up {K : PySem.W.Frag} {p p' : List Addr} {H H' : Hp} (hp : p <+: p') (hl : Le H H') : ∀ (d : D) {v : V}, Rep K p H d v → Rep K p' H' d v
  | .non, _, h => by unfold Rep at h ⊢; exact h
  | .bl _, _, h => by unfold Rep at h ⊢; exact h
  | .int _, _, h => by unfold Rep at h ⊢; exact h
  | .str _, _, h => by unfold Rep at h ⊢; exact h
  | .tup ds, v, h => by
    unfold Rep at h ⊢
    obtain ⟨a, vs, e, q, r⟩ := h
    exact ⟨a, vs, e, hl.sqT q, Reps.up hp hl ds r⟩
  | .fl ds, v, h => by
    unfold Rep at h ⊢
    obtain ⟨a, vs, e, q, r⟩ := h
    refine ⟨a, vs, e, ?_, Reps.up hp hl ds r⟩
    rcases q with ⟨o, q⟩ | q
    · exact .inl ⟨o, hl.f _ _ _ q⟩
    · exact .inr q
  | .ref i, v, h => by
    unfold Rep at h ⊢
    obtain ⟨a, e, q⟩ := h
    obtain ⟨t, rfl⟩ := hp
    refine ⟨a, ?_, q⟩
    rw [List.getElem?_append_left (List.getElem?_eq_some_iff.mp e).1]
    exact e
theorem Reps.up {K : PySem.W.Frag} {p p' : List Addr} {H H' : Hp} (hp : p <+: p') (hl : Le H H') : ∀ (ds : List D) {vs : List V}, Reps K p H ds vs → Reps K p' H' ds vs
  | [], _, h => by unfold Reps at h ⊢; exact h
  | d :: ds, _, h => by
    unfold Reps at h ⊢
    obtain ⟨v, ws, e, r, q⟩ := h
    exact ⟨v, ws, e, Rep.up hp hl d r, Reps.up hp hl ds q⟩
end
theorem reps_nil {K : PySem.W.Frag} {p : List Addr} {H : Hp} : Reps K p H [] [] := by unfold Reps; rfl
theorem reps_cons {K : PySem.W.Frag} {p : List Addr} {H : Hp} {d : D} {ds : List D} {v : V} {vs : List V} (h : Rep K p H d v) (k : Reps K p H ds vs) : Reps K p H (d :: ds) (v :: vs) := by
  unfold Reps; exact ⟨v, vs, rfl, h, k⟩
theorem reps_len {K : PySem.W.Frag} {p : List Addr} {H : Hp} : ∀ {ds : List D} {vs : List V}, Reps K p H ds vs → ds.length = vs.length
  | [], _, h => by unfold Reps at h; subst h; rfl
  | d :: ds, _, h => by
    unfold Reps at h
    obtain ⟨v, ws, e, _, q⟩ := h
    rw [e, List.length_cons, List.length_cons, reps_len q]
theorem reps_get {K : PySem.W.Frag} {p : List Addr} {H : Hp} : ∀ {ds : List D} {vs : List V} {i : Nat} {d : D}, Reps K p H ds vs → ds[i]? = some d → ∃ v, vs[i]? = some v ∧ Rep K p H d v
  | [], _, _, _, _, e => by simp at e
  | x :: ds, _, 0, d, h, e => by
    unfold Reps at h
    obtain ⟨v, ws, rfl, r, _⟩ := h
    simp at e
    subst e
    exact ⟨v, rfl, r⟩
  | x :: ds, _, i + 1, d, h, e => by
    unfold Reps at h
    obtain ⟨v, ws, rfl, _, q⟩ := h
    simpa using reps_get (i := i) (d := d) q (by simpa using e)
theorem reps_app {K : PySem.W.Frag} {p : List Addr} {H : Hp} : ∀ {ds es : List D} {vs ws : List V}, Reps K p H ds vs → Reps K p H es ws → Reps K p H (ds ++ es) (vs ++ ws)
  | [], _, _, _, h, k => by unfold Reps at h; rw [h]; exact k
  | d :: ds, _, _, _, h, k => by
    unfold Reps at h
    obtain ⟨v, us, rfl, r, q⟩ := h
    exact reps_cons r (reps_app q k)
theorem reps_set {K : PySem.W.Frag} {p : List Addr} {H : Hp} {d : D} {v : V} (r : Rep K p H d v) : ∀ {ds : List D} {vs : List V} (i : Nat), Reps K p H ds vs → Reps K p H (ds.set i d) (vs.set i v)
  | [], _, _, h => by unfold Reps at h; rw [h]; exact reps_nil
  | x :: ds, _, 0, h => by
    unfold Reps at h
    obtain ⟨u, us, rfl, _, q⟩ := h
    exact reps_cons r q
  | x :: ds, _, i + 1, h => by
    unfold Reps at h
    obtain ⟨u, us, rfl, s, q⟩ := h
    exact reps_cons s (reps_set r i q)
theorem reps_drop {K : PySem.W.Frag} {p : List Addr} {H : Hp} : ∀ {ds : List D} {vs : List V} (n : Nat), Reps K p H ds vs → Reps K p H (ds.drop n) (vs.drop n)
  | _, _, 0, h => h
  | [], _, n + 1, h => by unfold Reps at h; rw [h]; exact reps_nil
  | d :: ds, _, n + 1, h => by
    unfold Reps at h
    obtain ⟨u, us, rfl, _, q⟩ := h
    exact reps_drop n q
theorem reps_take {K : PySem.W.Frag} {p : List Addr} {H : Hp} : ∀ {ds : List D} {vs : List V} (n : Nat), Reps K p H ds vs → Reps K p H (ds.take n) (vs.take n)
  | _, _, 0, h => reps_nil
  | [], _, n + 1, h => by unfold Reps at h; rw [h]; exact reps_nil
  | d :: ds, _, n + 1, h => by
    unfold Reps at h
    obtain ⟨u, us, rfl, r, q⟩ := h
    exact reps_cons r (reps_take n q)

/-! ### the heap -/
def OR (K : PySem.W.Frag) (mg : Str → Option Value) (p : List Addr) (H : Hp) (a : Addr) : O → Prop
  | .lst ds => ∃ vs, H a = some (.lst vs) ∧ Reps K p H ds vs
  | .dic kvs => ∃ ws : List (Key × V), H a = some (.dK ws) ∧ Paired (fun (x : Str × D) (y : Key × V) => y.1 = Sum.inr x.1 ∧ Rep K p H x.2 y.2) kvs ws
  | .dct kvs => ∃ ws : List (List Key × V), H a = some (.dT ws) ∧ Paired (fun (x : List D × D) (y : List Key × V) => Reps K p H x.1 (y.1.map kV) ∧ Rep K p H x.2 y.2) kvs ws
  | .ins c fs => ∃ C dx ws, mg c = some (.ref C) ∧ H a = some (.ins C dx ws) ∧ Paired (fun (x : Str × D) (y : Str × V) => y.1 = x.1 ∧ Rep K p H x.2 y.2) fs ws
structure Rl (K : PySem.W.Frag) (mg : Str → Option Value) (p : List Addr) (M : Hd) (H : Hp) : Prop where
  len : p.length = M.length
  nd : p.Nodup
  ob : ∀ (i : Nat) (o : O), M[i]? = some o → ∃ a, p[i]? = some a ∧ OR K mg p H a o
theorem paired_mono {α β : Type} {F G : α → β → Prop} (h : ∀ x y, F x y → G x y) : ∀ {l : List α} {m : List β}, Paired F l m → Paired G l m
  | _, _, .nil => .nil
  | _, _, .cons r t => .cons (h _ _ r) (paired_mono h t)
theorem OR.up {K : PySem.W.Frag} {mg : Str → Option Value} {p p' : List Addr} {H H' : Hp} {a : Addr} {o : O} (hp : p <+: p') (hl : Le H H') (he : H' a = H a) (h : OR K mg p H a o) : OR K mg p' H' a o := by
  cases o with
  | lst ds => obtain ⟨vs, e, r⟩ := h; exact ⟨vs, he.trans e, Reps.up hp hl ds r⟩
  | dic kvs => obtain ⟨ws, e, r⟩ := h; exact ⟨ws, he.trans e, paired_mono (fun x y q => ⟨q.1, Rep.up hp hl _ q.2⟩) r⟩
  | dct kvs => obtain ⟨ws, e, r⟩ := h; exact ⟨ws, he.trans e, paired_mono (fun x y q => ⟨Reps.up hp hl _ q.1, Rep.up hp hl _ q.2⟩) r⟩
  | ins c fs => obtain ⟨C, dx, ws, m, e, r⟩ := h; exact ⟨C, dx, ws, m, he.trans e, paired_mono (fun x y q => ⟨q.1, Rep.up hp hl _ q.2⟩) r⟩
theorem OR.some {K : PySem.W.Frag} {mg : Str → Option Value} {p : List Addr} {H : Hp} {a : Addr} {o : O} (h : OR K mg p H a o) : ∃ u, H a = some u ∧ (∀ vs, u ≠ .tup vs) ∧ (∀ o' w, u ≠ .frz o' w) := by
  cases o with
  | lst ds => obtain ⟨vs, e, r⟩ := h; exact ⟨_, e, (fun _ z => nomatch z), fun _ _ z => nomatch z⟩
  | dic kvs => obtain ⟨ws, e, r⟩ := h; exact ⟨_, e, (fun _ z => nomatch z), fun _ _ z => nomatch z⟩
  | dct kvs => obtain ⟨ws, e, r⟩ := h; exact ⟨_, e, (fun _ z => nomatch z), fun _ _ z => nomatch z⟩
  | ins c fs => obtain ⟨C, dx, ws, m, e, r⟩ := h; exact ⟨_, e, (fun _ z => nomatch z), fun _ _ z => nomatch z⟩
section
variable {K : PySem.W.Frag} {mg : Str → Option Value} {p : List Addr} {M : Hd} {H : Hp}
/-- an address of the data heap is tracked -/
theorem Rl.there (R : Rl K mg p M H) {i : Nat} {a : Addr} (h : p[i]? = some a) : ∃ o, M[i]? = some o ∧ OR K mg p H a o := by
  have hi : i < M.length := by rw [← R.len]; exact (List.getElem?_eq_some_iff.mp h).1
  obtain ⟨b, hb, q⟩ := R.ob i M[i] (List.getElem?_eq_getElem hi)
  rw [h] at hb
  cases hb
  exact ⟨_, List.getElem?_eq_getElem hi, q⟩
theorem Rl.ne (R : Rl K mg p M H) {i j : Nat} {a b : Addr} (ha : p[i]? = some a) (hb : p[j]? = some b) (h : i ≠ j) : a ≠ b := by
  intro e
  subst e
  obtain ⟨hi, ei⟩ := List.getElem?_eq_some_iff.mp ha
  obtain ⟨hj, ej⟩ := List.getElem?_eq_some_iff.mp hb
  exact h ((List.getElem_inj R.nd).mp (ei.trans ej.symm))
/-- something that the data heap does not know is laid -/
theorem Rl.other (R : Rl K mg p M H) {a : Addr} {u : HO} (h : H a = none) : Rl K mg p M (upd H a u) := by
  refine ⟨R.len, R.nd, fun i o e => ?_⟩
  obtain ⟨b, hb, q⟩ := R.ob i o e
  obtain ⟨w, hw, _⟩ := q.some
  exact ⟨b, hb, q.up (List.prefix_refl p) (Le.new h) (upd_ne (ne_of_none hw h))⟩
/-- a new thing -/
theorem Rl.new (R : Rl K mg p M H) {a : Addr} {u : HO} {o : O} (h : H a = none) (ho : OR K mg (p ++ [a]) (upd H a u) a o) : Rl K mg (p ++ [a]) (M ++ [o]) (upd H a u) := by
  have hna : a ∉ p := fun hm => by
    obtain ⟨i, hi, e⟩ := List.mem_iff_getElem.mp hm
    obtain ⟨o', _, q⟩ := R.there (i := i) (a := a) (by rw [List.getElem?_eq_getElem hi, e])
    obtain ⟨w, hw, _⟩ := q.some
    rw [h] at hw
    cases hw
  refine ⟨by rw [List.length_append, List.length_append, R.len] <;> rfl, ?_, fun i o' e => ?_⟩
  · rw [List.nodup_append]
    refine ⟨R.nd, by simp, fun x hx y hy e => ?_⟩
    have : y = a := by simpa using hy
    subst this
    subst e
    exact hna hx
  · by_cases hi : i < M.length
    · rw [List.getElem?_append_left hi] at e
      obtain ⟨b, hb, q⟩ := R.ob i o' e
      obtain ⟨w, hw, _⟩ := q.some
      refine ⟨b, ?_, q.up (List.prefix_append p [a]) (Le.new h) (upd_ne (ne_of_none hw h))⟩
      rw [List.getElem?_append_left (by rw [R.len]; exact hi)]
      exact hb
    · rw [List.getElem?_append_right (by omega)] at e
      have hi0 : i - M.length = 0 := by
        have := (List.getElem?_eq_some_iff.mp e).1
        simp at this
        omega
      rw [hi0] at e
      have e' : o = o' := by simpa using e
      subst e'
      refine ⟨a, ?_, ho⟩
      rw [List.getElem?_append_right (by rw [R.len]; omega), R.len, hi0]
      rfl
/-- a thing is changed -/
theorem Rl.put (R : Rl K mg p M H) {i : Nat} {a : Addr} {u : HO} {o : O} (ha : p[i]? = some a) (ho : Le H (upd H a u) → OR K mg p (upd H a u) a o) : Rl K mg p (M.set i o) (upd H a u) ∧ Le H (upd H a u) := by
  obtain ⟨o0, e0, q0⟩ := R.there ha
  obtain ⟨w, hw, n1, n2⟩ := q0.some
  have hl : Le H (upd H a u) := by
    refine ⟨fun b vs q => ?_, fun b o' w' q => ?_⟩
    · have : b ≠ a := fun e => by subst e; rw [hw] at q; exact n1 vs (Option.some.inj q)
      rw [upd_ne this]; exact q
    · have : b ≠ a := fun e => by subst e; rw [hw] at q; exact n2 o' w' (Option.some.inj q)
      rw [upd_ne this]; exact q
  refine ⟨⟨by rw [List.length_set]; exact R.len, R.nd, fun j o' e => ?_⟩, hl⟩
  by_cases hj : j = i
  · subst hj
    rw [List.getElem?_set_self (List.getElem?_eq_some_iff.mp e0).1] at e
    cases e
    exact ⟨a, ha, ho hl⟩
  · rw [List.getElem?_set_ne (Ne.symm hj)] at e
    obtain ⟨b, hb, q⟩ := R.ob j o' e
    exact ⟨b, hb, q.up (List.prefix_refl p) hl (upd_ne (R.ne hb ha hj))⟩
end
/-- slots; z: the exception that is held, and its name's slot -/
abbrev Zx := Option (Addr × Nat)
structure Sl (K : PySem.W.Frag) (z : Zx) (p : List Addr) (H : Hp) (r : Ev) (σ : L2.St) : Prop where
  len : r.length = σ.length
  at_ : ∀ (i : Nat) (d : D), r[i]? = some (some d) → ∃ v, σ[i]? = some (some v) ∧ Rep K p H d v
  ex : ∀ a i, z = some (a, i) → r[i]? = some none → σ[i]? = some (some (.ref a))
section
variable {K : PySem.W.Frag} {z : Zx} {p p' : List Addr} {H H' : Hp} {r : Ev} {σ : L2.St} {d : D} {v : V}
theorem Sl.up (hp : p <+: p') (hl : Le H H') (s : Sl K z p H r σ) : Sl K z p' H' r σ :=
  ⟨s.len, fun i d e => by
    obtain ⟨v, e', q⟩ := s.at_ i d e
    exact ⟨v, e', Rep.up hp hl d q⟩, s.ex⟩
theorem Sl.set (s : Sl K z p H r σ) (i : Nat) (q : Rep K p H d v) : Sl K z p H (r.set i (some d)) (σ.set i (some v)) := by
  refine ⟨by rw [List.length_set, List.length_set]; exact s.len, fun j e h => ?_, fun a j hz h => ?_⟩
  · by_cases hj : i = j
    · subst hj
      have hi : i < r.length := by
        have := (List.getElem?_eq_some_iff.mp h).1
        rw [List.length_set] at this
        exact this
      rw [List.getElem?_set_self hi] at h
      cases h
      exact ⟨v, by rw [List.getElem?_set_self (by rw [← s.len]; exact hi)], q⟩
    · rw [List.getElem?_set_ne hj] at h
      obtain ⟨u, e', q'⟩ := s.at_ j e h
      exact ⟨u, by rw [List.getElem?_set_ne hj]; exact e', q'⟩
  · by_cases hj : i = j
    · subst hj
      have hi : i < r.length := by
        have := (List.getElem?_eq_some_iff.mp h).1
        rw [List.length_set] at this
        exact this
      rw [List.getElem?_set_self hi] at h
      cases h
    · rw [List.getElem?_set_ne hj] at h ⊢
      exact s.ex a j hz h
theorem Sl.del (s : Sl K none p H r σ) (i : Nat) (x : Option V) : Sl K none p H (r.set i none) (σ.set i x) := by
  refine ⟨by rw [List.length_set, List.length_set]; exact s.len, fun j e h => ?_, fun a j hz h => nomatch hz⟩
  by_cases hj : i = j
  · subst hj
    have hi : i < r.length := by
      have := (List.getElem?_eq_some_iff.mp h).1
      rw [List.length_set] at this
      exact this
    rw [List.getElem?_set_self hi] at h
    cases h
  · rw [List.getElem?_set_ne hj] at h
    obtain ⟨u, e', q'⟩ := s.at_ j e h
    exact ⟨u, by rw [List.getElem?_set_ne hj]; exact e', q'⟩
end

/-! ### the judgements -/
/-- what stands still of the context -/
structure Kx where
  K : PySem.W.Frag
  mg : Str → Option Value
  z : Zx
/-- what is wanted of an outcome -/
def PoE (k : Kx) (W : WX) {α β : Type} (Re : List Addr → Hp → α → β → Prop) (p : List Addr) (H : Hp) (σ : L2.St) (o : Rs α) (Q : β → Hp → Prop) : Prop := match o with
  | .ok d M' => ∀ p' H' v, p <+: p' → Le H H' → Rl k.K k.mg p' M' H' → Re p' H' d v → Q v H'
  | .er c M' => ∀ p' H' C, p <+: p' → Le H H' → Rl k.K k.mg p' M' H' → k.mg c = some (.ref C) → W (.ref C) none σ H'
def gE (k : Kx) (W : WX) {α β : Type} (Re : List Addr → Hp → α → β → Prop) (f : Ev → Hd → Option (Rs α)) : L2.St → Hp → (β → Hp → Prop) → Prop := fun σ H Q =>
  ∃ p M r o, Rl k.K k.mg p M H ∧ Sl k.K k.z p H r σ ∧ f r M = some o ∧ PoE k W Re p H σ o Q
abbrev rD (k : Kx) : List Addr → Hp → D → V → Prop := Rep k.K
abbrev rB : List Addr → Hp → Bool → Bool → Prop := fun _ _ b c => c = b
abbrev rA (k : Kx) : List Addr → Hp → List D → List V → Prop := Reps k.K
abbrev Cx.k (X : Cx) (z : Zx) : Kx := ⟨X.K, X.mg, z⟩
def DE (X : Cx) (z : Zx) (W : WX) (e : Expr) (f : EF) : Prop := PE X e (gE (Cx.k X z) W (rD (Cx.k X z)) f)
def DT (X : Cx) (z : Zx) (W : WX) (e : Expr) (f : TF) : Prop := PT X e (gE (Cx.k X z) W rB f)
def DW (X : Cx) (z : Zx) (W : WX) (e : Expr) (f : TF) : Prop := PW X e (gE (Cx.k X z) W rB f)
def DA (X : Cx) (z : Zx) (W : WX) (es : List Expr) (f : AF) : Prop := PA X es (gE (Cx.k X z) W (rA (Cx.k X z)) f)
theorem _root_.L2.PE.imp {X : Cx} {e : Expr} {t u : TE} (h : PE X e t) (q : ∀ σ H Q, u σ H Q → t σ H Q) : PE X e u := ⟨fun pins s σ H Q I k => h.run pins s σ H Q I (q σ H Q k)⟩
theorem _root_.L2.PT.imp {X : Cx} {e : Expr} {t u : TT} (h : PT X e t) (q : ∀ σ H Q, u σ H Q → t σ H Q) : PT X e u := ⟨fun pins s σ H Q I k => h.run pins s σ H Q I (q σ H Q k)⟩
theorem _root_.L2.PW.imp {X : Cx} {e : Expr} {t u : TT} (h : PW X e t) (q : ∀ σ H Q, u σ H Q → t σ H Q) : PW X e u := ⟨fun wh pins s σ H Q I k => h.run wh pins s σ H Q I (q σ H Q k)⟩
theorem _root_.L2.PA.imp {X : Cx} {e : List Expr} {t u : TA} (h : PA X e t) (q : ∀ σ H Q, u σ H Q → t σ H Q) : PA X e u := ⟨fun pos pins s σ H Q I k => h.run pos pins s σ H Q I (q σ H Q k)⟩
theorem _root_.L2.PS.imp {X : Cx} {e : Stmt} {t u : TS} (h : PS X e t) (q : ∀ D σ H, u D σ H → t D σ H) : PS X e u := ⟨fun pins s σ H Q I k => h.run pins s σ H Q I (q _ σ H k)⟩
theorem _root_.L2.PSs.imp {X : Cx} {e : List Stmt} {t u : TS} (h : PSs X e t) (q : ∀ D σ H, u D σ H → t D σ H) : PSs X e u := ⟨fun pins s σ H Q I k => h.run pins s σ H Q I (q _ σ H k)⟩

section
variable {k : Kx} {W : WX} {α β γ δ : Type} {Re : List Addr → Hp → α → β → Prop} {Rf : List Addr → Hp → γ → δ → Prop}
/-- first f, then what g says -/
theorem gE_bnd {f : Ev → Hd → Option (Rs α)} {g : α → Hd → Option (Rs γ)} {r : Ev} {M : Hd} {p : List Addr} {σ : L2.St} {H : Hp} {o : Rs γ} {Q : δ → Hp → Prop} {S : β → Hp → Prop} (R : Rl k.K k.mg p M H) (L : Sl k.K k.z p H r σ)
    (e : bnd (f r M) g = some o) (po : PoE k W Rf p H σ o Q)
    (h : ∀ d M1 p1 H1 v, Rl k.K k.mg p1 M1 H1 → Sl k.K k.z p1 H1 r σ → Le H H1 → p <+: p1 → Re p1 H1 d v → g d M1 = some o → PoE k W Rf p1 H1 σ o Q → S v H1) : gE k W Re f σ H S := by
  cases ef : f r M with
  | none => rw [ef] at e; exact nomatch e
  | some x =>
    refine ⟨p, M, r, x, R, L, ef, ?_⟩
    rw [ef] at e
    cases x with
    | er c M1 =>
      cases e
      exact po
    | ok d M1 =>
      intro p1 H1 v hp hl R1 q
      refine h d M1 p1 H1 v R1 (L.up hp hl) hl hp q e ?_
      cases o with
      | ok d2 M2 => exact fun p2 H2 v2 hp2 hl2 R2 q2 => po p2 H2 v2 (hp.trans hp2) (hl.trans hl2) R2 q2
      | er c M2 => exact fun p2 H2 C hp2 hl2 R2 q2 => po p2 H2 C (hp.trans hp2) (hl.trans hl2) R2 q2
/-- the outcome as it stands -/
theorem PoE.ok {p : List Addr} {H : Hp} {σ : L2.St} {d : γ} {M : Hd} {Q : δ → Hp → Prop} (po : PoE k W Rf p H σ (.ok d M) Q) {v : δ} (R : Rl k.K k.mg p M H) (q : Rf p H d v) : Q v H := po p H v (List.prefix_refl p) (Le.refl H) R q
end

section
variable {X : Cx} {z : Zx} {W : WX} {a b c : Expr} {fa fb fc : EF} {pos : Pos}
/-! ### names, constants -/
theorem de_var (i : Nat) {x : Str} (hN : X.N[i]? = some x := by rfl) (hv : Vis X.env.scope x := by first | exact Or.inl rfl | exact Or.inr (Or.inl rfl) | exact Or.inr (Or.inr rfl)) (hd : (x == ("__debug__" : Str)) = false := by decide) (hcd : (x == ("__classdict__" : Str)) = false := by decide) :
    DE X z W (.Name x pos) (eVar i) := by
  refine (pe_var (i := i) hN hv hd hcd).imp ?_
  rintro σ H Q ⟨p, M, r, o, R, L, e, po⟩
  unfold eVar at e
  split at e
  · rename_i d hd'
    cases e
    obtain ⟨v, hv', q⟩ := L.at_ i d hd'
    exact ⟨v, hv', po.ok R q⟩
  · cases e
theorem gE_c {k : Kx} {d : D} {v : V} (h : ∀ p H, Rep k.K p H d v) {σ : L2.St} {H : Hp} {Q : VK} (g : gE k W (rD k) (eC d) σ H Q) : tC v σ H Q := by
  obtain ⟨p, M, r, o, R, L, e, po⟩ := g
  cases e
  exact po.ok R (h p H)
theorem de_int {i : Int} {j : Nat} : DE X z W (.Constant (.int i) j pos) (eC (.int i)) := pe_int.imp fun _ _ _ => gE_c fun _ _ => by unfold Rep; rfl
theorem de_bl {i : Bool} {j : Nat} : DE X z W (.Constant (.bool i) j pos) (eC (.bl i)) := pe_bl.imp fun _ _ _ => gE_c fun _ _ => by unfold Rep; rfl
theorem de_non {j : Nat} : DE X z W (.Constant .none j pos) (eC .non) := pe_non.imp fun _ _ _ => gE_c fun _ _ => by unfold Rep; rfl
theorem de_str {x : Str} {j : Nat} : DE X z W (.Constant (.str x) j pos) (eC (.str x)) := pe_str.imp fun _ _ _ => gE_c fun _ _ => by unfold Rep; rfl
/-- a constant of the module -/
theorem de_glob {x : Str} {v : V} {u : Value} {d : D} (hg : Gl X x) (hm : X.mg x = some u) (r : RelV v u) (h : ∀ p H, Rep X.K p H d v) (hd : (x == ("__debug__" : Str)) = false := by decide) : DE X z W (.Name x pos) (eC d) :=
  (pe_glob hg hm r hd).imp fun _ _ _ => gE_c h

/-- an int of the module -/
theorem de_gi {x : Str} {i : Int} (h : ∃ u, X.mg x = some u ∧ RelV (.int i) u) (hg : Gl X x := by rfl) (hd : (x == ("__debug__" : Str)) = false := by decide) : DE X z W (.Name x pos) (eC (.int i)) := by
  obtain ⟨u, h1, h2⟩ := h
  exact de_glob hg h1 h2 (fun _ _ => by unfold Rep; rfl) hd

/-! ### operators -/
/-- an operator by values does what g says of data -/
def OD (k : Kx) (r : R2) (g : G2) : Prop := ∀ {p M H x y v u o Q} (W : WX) (σ : L2.St), Rl k.K k.mg p M H → Rep k.K p H x v → Rep k.K p H y u → g x y M = some o → PoE k W (rD k) p H σ o Q → r v u H Q
def OU (k : Kx) (r : V → Hp → VK → Prop) (g : D → Hd → Option (Rs D)) : Prop := ∀ {p M H x v o Q} (W : WX) (σ : L2.St), Rl k.K k.mg p M H → Rep k.K p H x v → g x M = some o → PoE k W (rD k) p H σ o Q → r v H Q
theorem gE_op {k : Kx} {r : R2} {g : G2} (h : OD k r g) {σ : L2.St} {H : Hp} {Q : VK} (q : gE k W (rD k) (eOp g fa fb) σ H Q) : tOp r (gE k W (rD k) fa) (gE k W (rD k) fb) σ H Q := by
  obtain ⟨p, M, ρ, o, R, L, e, po⟩ := q
  refine gE_bnd R L e po fun d M1 p1 H1 v R1 L1 hl1 hp1 q1 e1 po1 => ?_
  refine gE_bnd R1 L1 e1 po1 fun d2 M2 p2 H2 u R2 L2 hl2 hp2 q2 e2 po2 => ?_
  exact h W σ R2 (Rep.up hp2 hl2 _ q1) q2 e2 po2
theorem de_op {op : Operator} {r : R2} {g : G2} (ho : OpR X (binaryOp op) r) (h : OD (Cx.k X z) r g) (ha : DE X z W a fa) (hb : DE X z W b fb) : DE X z W (.BinOp a op b pos) (eOp g fa fb) :=
  (pe_op ho ha hb).imp fun _ _ _ q => gE_op h q
theorem de_un {op : UnaryOp} {r : V → Hp → VK → Prop} {g : D → Hd → Option (Rs D)} (ho : UnR X (unaryOp op) r) (h : OU (Cx.k X z) r g) (ha : DE X z W a fa) : DE X z W (.UnaryOp op a pos) (eUn g fa) := by
  refine (pe_un ho ha).imp ?_
  rintro σ H Q ⟨p, M, ρ, o, R, L, e, po⟩
  exact gE_bnd R L e po fun d M1 p1 H1 v R1 L1 hl1 hp1 q1 e1 po1 => h W σ R1 q1 e1 po1
theorem de_cmp {op : CmpOp} {r : R2} {g : G2} (ho : OpR X (compareOp op) r) (h : OD (Cx.k X z) r g) (ha : DE X z W a fa) (hb : DE X z W b fb) (hm : behindInMarks op b = false := by first | exact nomark _ | rfl) : DE X z W (.Compare a [op] [b] pos) (eOp g fa fb) :=
  (pe_cmpR ho ha hb hm).imp fun _ _ _ q => gE_op h q
/-- a test whose answer is a bool -/
theorem gE_bOf {k : Kx} {f : EF} {σ : L2.St} {H : Hp} {Q : Bool → Hp → Prop} (q : gE k W rB (tVal f) σ H Q) : gE k W (rD k) f σ H fun x H' => ∃ c, x = .bl c ∧ Q c H' := by
  obtain ⟨p, M, ρ, o, R, L, e, po⟩ := q
  refine gE_bnd R L e po fun d M1 p1 H1 v R1 L1 hl1 hp1 q1 e1 po1 => ?_
  cases d with
  | bl b =>
    cases e1
    unfold Rep at q1
    exact ⟨b, q1, po1.ok R1 rfl⟩
  | _ => cases e1
theorem dt_cmp {op : CmpOp} {r : R2} {g : G2} (ho : OpR X (compareOp op) r) (h : OD (Cx.k X z) r g) (ha : DE X z W a fa) (hb : DE X z W b fb) (hm : behindInMarks op b = false := by first | exact nomark _ | rfl) : DT X z W (.Compare a [op] [b] pos) (tVal (eOp g fa fb)) := by
  refine (pt_cmpR ho ha hb hm).imp fun σ H Q q => ?_
  have q2 := gE_bOf q
  exact gE_op (Q := fun x H' => ∃ c, x = .bl c ∧ Q c H') h q2

/-! ### what stands behind data -/
theorem rep_tup {K : PySem.W.Frag} {p : List Addr} {H : Hp} {a : Addr} {ds : List D} {vs : List V} (h : SqT K H a vs) (q : Reps K p H ds vs) : Rep K p H (.tup ds) (.ref a) := by
  unfold Rep; exact ⟨a, vs, rfl, h, q⟩
theorem rep_ref {K : PySem.W.Frag} {p : List Addr} {H : Hp} {a : Addr} {i : Nat} (h : p[i]? = some a) : Rep K p H (.ref i) (.ref a) := by
  unfold Rep; exact ⟨a, h, rfl⟩
theorem rep_int {K : PySem.W.Frag} {p : List Addr} {H : Hp} {i : Int} : Rep K p H (.int i) (.int i) := by unfold Rep; rfl
theorem rep_bl {K : PySem.W.Frag} {p : List Addr} {H : Hp} {i : Bool} : Rep K p H (.bl i) (.bl i) := by unfold Rep; rfl
theorem rep_str {K : PySem.W.Frag} {p : List Addr} {H : Hp} {i : Str} : Rep K p H (.str i) (.str i) := by unfold Rep; rfl
theorem rep_non {K : PySem.W.Frag} {p : List Addr} {H : Hp} : Rep K p H .non .non := by unfold Rep; rfl
theorem rep_lst {K : PySem.W.Frag} {mg : Str → Option Value} {p : List Addr} {M : Hd} {H : Hp} {i : Nat} {v : V} {ds : List D} (R : Rl K mg p M H) (h : Rep K p H (.ref i) v) (e : M[i]? = some (.lst ds)) :
    ∃ a vs, v = .ref a ∧ p[i]? = some a ∧ H a = some (.lst vs) ∧ Reps K p H ds vs := by
  unfold Rep at h
  obtain ⟨a, ha, rfl⟩ := h
  obtain ⟨b, hb, vs, e1, e2⟩ := R.ob i _ e
  rw [ha] at hb
  cases hb
  exact ⟨a, vs, rfl, ha, e1, e2⟩
theorem rep_items {K : PySem.W.Frag} {mg : Str → Option Value} {p : List Addr} {M : Hd} {H : Hp} {x : D} {v : V} {ds : List D} (R : Rl K mg p M H) (h : Rep K p H x v) (e : itemsD x M = some ds) :
    ∃ a vs, v = .ref a ∧ (SqL K H a vs ∨ SqT K H a vs) ∧ Reps K p H ds vs := by
  cases x with
  | tup es =>
    cases e
    unfold Rep at h
    obtain ⟨a, vs, e1, e2, e3⟩ := h
    exact ⟨a, vs, e1, .inr e2, e3⟩
  | fl es =>
    cases e
    unfold Rep at h
    obtain ⟨a, vs, e1, e2, e3⟩ := h
    refine ⟨a, vs, e1, .inl ?_, e3⟩
    rcases e2 with ⟨o, e2⟩ | e2
    · exact .inl (.inr ⟨o, e2⟩)
    · exact e2 H
  | ref i =>
    unfold itemsD at e
    dsimp only at e
    split at e
    · rename_i es ho
      cases e
      obtain ⟨a, vs, e1, _, e2, e3⟩ := rep_lst R h ho
      exact ⟨a, vs, e1, .inl (SqL.of e2), e3⟩
    · cases e
  | _ => cases e
theorem reps_atI {K : PySem.W.Frag} {p : List Addr} {H : Hp} {ds : List D} {vs : List V} {i : Int} {d : D} (h : Reps K p H ds vs) (e : atI ds i = some d) : ∃ v, atI vs i = some v ∧ Rep K p H d v := by
  unfold atI at e ⊢
  rw [← reps_len h]
  cases q : ixN ds.length i with
  | none => rw [q] at e; cases e
  | some j =>
    rw [q] at e
    exact reps_get h e
theorem line_eq {n : Nat} (h : n ≤ 16777216) : n ≤ sizeLine := by rw [sizeLine_eq]; exact h
theorem line_lt {n : Nat} (h : n < 16777216) : n < sizeLine := by rw [sizeLine_eq]; exact h
section
variable {k : Kx} {p : List Addr} {M : Hd} {H : Hp} {σ : L2.St} {Q : VK} {ds : List D} {vs : List V}
theorem po_tup (R : Rl k.K k.mg p M H) (po : PoE k W (rD k) p H σ (.ok (.tup ds) M) Q) (h : Reps k.K p H ds vs) : ∀ a, H a = none → Q (.ref a) (upd H a (.tup vs)) := fun a ha =>
  po p _ _ (List.prefix_refl p) (Le.new ha) (R.other ha) (rep_tup (SqT.of upd_same) (Reps.up (List.prefix_refl p) (Le.new ha) _ h))
theorem po_lst (R : Rl k.K k.mg p M H) (po : PoE k W (rD k) p H σ (.ok (.ref M.length) (M ++ [.lst ds])) Q) (h : Reps k.K p H ds vs) : ∀ a, H a = none → Q (.ref a) (upd H a (.lst vs)) := fun a ha =>
  po (p ++ [a]) _ _ (List.prefix_append p [a]) (Le.new ha) (R.new ha ⟨vs, upd_same, Reps.up (List.prefix_append p [a]) (Le.new ha) _ h⟩) (rep_ref (by rw [List.getElem?_append_right (by rw [R.len]; omega), R.len]; simp))
end

/-! ### arithmetic -/
section
variable {k : Kx}
def rAddD (K : PySem.W.Frag) : R2 := fun x y H Q => rI0 (fun i j => V.int (i + j)) x y H Q ∨ ((∃ i j, x = .str i ∧ y = .str j ∧ i.length + j.length ≤ sizeLine ∧ Q (.str (i ++ j)) H) ∨ (rCatA K x y H Q ∨ rCat x y H Q))
theorem op_addD : OpR X (binaryOp .Add) (rAddD X.K) := op_add.or (op_add_str.or (op_catA.or op_cat))
theorem od_add : OD k (rAddD k.K) addG := by
  intro p M H x y v u o Q W σ R q1 q2 e po
  cases x with
  | int a =>
    cases y with
    | int b =>
      cases e
      unfold Rep at q1 q2
      exact .inl ⟨a, b, q1, q2, po.ok R rep_int⟩
    | _ => cases e
  | str a =>
    cases y with
    | str b =>
      unfold addG at e
      simp only at e
      split at e
      · rename_i hl
        cases e
        unfold Rep at q1 q2
        exact .inr (.inl ⟨a, b, q1, q2, line_eq hl, po.ok R rep_str⟩)
      · cases e
    | _ => cases e
  | tup a =>
    cases y with
    | tup b =>
      unfold addG at e
      simp only at e
      split at e
      · rename_i hl
        cases e
        unfold Rep at q1 q2
        obtain ⟨l1, vs, rfl, s1, r1⟩ := q1
        obtain ⟨l2, ws, rfl, s2, r2⟩ := q2
        have e1 := reps_len r1
        have e2 := reps_len r2
        refine .inr (.inr (.inl ⟨l1, l2, vs, ws, rfl, rfl, s1, s2, line_eq (by omega), fun h => ?_, fun h1 h2 => ?_, fun h1 h2 => ?_⟩))
        · subst h
          have : a = [] := by cases a with | nil => rfl | cons _ _ => simp at e1
          subst this
          exact po.ok R (rep_tup s2 r2)
        · subst h2
          have : b = [] := by cases b with | nil => rfl | cons _ _ => simp at e2
          subst this
          rw [List.append_nil] at po
          exact po.ok R (rep_tup s1 r1)
        · exact po_tup R po (reps_app r1 r2)
      · cases e
    | _ => cases e
  | ref i =>
    cases y with
    | ref j =>
      unfold addG at e
      simp only at e
      split at e
      · rename_i a b h1 h2
        split at e
        · rename_i hl
          cases e
          obtain ⟨l1, vs, rfl, _, s1, r1⟩ := rep_lst R q1 h1
          obtain ⟨l2, ws, rfl, _, s2, r2⟩ := rep_lst R q2 h2
          have e1 := reps_len r1
          have e2 := reps_len r2
          exact .inr (.inr (.inr ⟨l1, l2, vs, ws, rfl, rfl, s1, s2, line_eq (by omega), po_lst R po (reps_app r1 r2)⟩))
        · cases e
      · cases e
    | _ => cases e
  | _ => cases y <;> cases e
theorem od_I {C : Int → Int → Prop} {f : Int → Int → Int} {g : G2} (h : ∀ x y M o, g x y M = some o → ∃ a b, x = .int a ∧ y = .int b ∧ C a b ∧ o = .ok (.int (f a b)) M) : OD k (rI C fun i j => .int (f i j)) g := by
  intro p M H x y v u o Q W σ R q1 q2 e po
  obtain ⟨a, b, rfl, rfl, c, rfl⟩ := h x y M o e
  unfold Rep at q1 q2
  exact ⟨a, b, q1, q2, c, po.ok R rep_int⟩
theorem od_B {f : Int → Int → Bool} {g : G2} (h : ∀ x y M o, g x y M = some o → ∃ a b, x = .int a ∧ y = .int b ∧ o = .ok (.bl (f a b)) M) : OD k (rI0 fun i j => .bl (f i j)) g := by
  intro p M H x y v u o Q W σ R q1 q2 e po
  obtain ⟨a, b, rfl, rfl, rfl⟩ := h x y M o e
  unfold Rep at q1 q2
  exact ⟨a, b, q1, q2, po.ok R rep_bl⟩
theorem od_addI : OD k (rI0 fun i j => .int (i + j)) addIG := by
  intro p M H x y v u o Q W σ R q1 q2 e po
  cases x with
  | int a =>
    cases y with
    | int b =>
      cases e
      unfold Rep at q1 q2
      exact ⟨a, b, q1, q2, po.ok R rep_int⟩
    | _ => cases e
  | _ => cases y <;> cases e
theorem od_mulI : OD k (rI CMul fun i j => .int (i * j)) mulIG := od_I fun x y M o e => by
  unfold mulIG at e
  split at e
  · split at e
    · rename_i h
      cases e
      exact ⟨_, _, rfl, rfl, h, rfl⟩
    · cases e
  · cases e
theorem od_sub : OD k (rI0 fun i j => .int (i - j)) subG := by
  intro p M H x y v u o Q W σ R q1 q2 e po
  cases x with
  | int a =>
    cases y with
    | int b =>
      cases e
      unfold Rep at q1 q2
      exact ⟨a, b, q1, q2, po.ok R rep_int⟩
    | _ => cases e
  | _ => cases y <;> cases e
def rMulD : R2 := fun x y H Q => rI CMul (fun i j => V.int (i * j)) x y H Q ∨ rI CMulW (fun i j => V.int (i * j)) x y H Q
theorem op_mulD : OpR X (binaryOp .Mult) rMulD := op_mul.or op_mulW
theorem od_mul : OD k rMulD mulG := by
  intro p M H x y v u o Q W σ R q1 q2 e po
  cases x with
  | int a =>
    cases y with
    | int b =>
      unfold mulG at e
      simp only at e
      split at e
      · rename_i h
        cases e
        unfold Rep at q1 q2
        rcases h with h | h | h
        · exact .inl ⟨a, b, q1, q2, .inl h, po.ok R rep_int⟩
        · exact .inl ⟨a, b, q1, q2, .inr h, po.ok R rep_int⟩
        · exact .inr ⟨a, b, q1, q2, h, po.ok R rep_int⟩
      · cases e
    | _ => cases e
  | _ => cases y <;> cases e
theorem od_div : OD k (rI CDivW fun i j => .int (i / j)) divG := od_I fun x y M o e => by
  unfold divG at e
  split at e
  · split at e
    · rename_i h
      cases e
      exact ⟨_, _, rfl, rfl, h, rfl⟩
    · cases e
  · cases e
theorem od_mod : OD k (rI (fun _ j => 0 < j) fun i j => .int (i % j)) modG := od_I fun x y M o e => by
  unfold modG at e
  split at e
  · split at e
    · rename_i h
      cases e
      exact ⟨_, _, rfl, rfl, h, rfl⟩
    · cases e
  · cases e
theorem od_pow : OD k (rI CPow fun i j => .int (i ^ j.toNat)) powG := od_I fun x y M o e => by
  unfold powG at e
  split at e
  · split at e
    · rename_i h
      cases e
      exact ⟨_, _, rfl, rfl, h, rfl⟩
    · cases e
  · cases e
theorem od_shl : OD k (rI CPow fun i j => .int (i * 2 ^ j.toNat)) shlG := od_I fun x y M o e => by
  unfold shlG at e
  split at e
  · split at e
    · rename_i h
      cases e
      exact ⟨_, _, rfl, rfl, h, rfl⟩
    · cases e
  · cases e
theorem ou_neg : OU k (rU fun i => .int (-i)) negG := by
  intro p M H x v o Q W σ R q e po
  cases x with
  | int a =>
    cases e
    unfold Rep at q
    exact ⟨a, q, po.ok R rep_int⟩
  | _ => cases e
theorem od_lt : OD k (rI0 fun i j => .bl (decide (i < j))) ltG := od_B fun x y M o e => by
  unfold ltG at e
  split at e
  · cases e
    exact ⟨_, _, rfl, rfl, rfl⟩
  · cases e
theorem od_le : OD k (rI0 fun i j => .bl (decide (i ≤ j))) leG := od_B fun x y M o e => by
  unfold leG at e
  split at e
  · cases e
    exact ⟨_, _, rfl, rfl, rfl⟩
  · cases e
theorem od_gt : OD k (rI0 fun i j => .bl (decide (j < i))) gtG := od_B fun x y M o e => by
  unfold gtG at e
  split at e
  · cases e
    exact ⟨_, _, rfl, rfl, rfl⟩
  · cases e
theorem od_ge : OD k (rI0 fun i j => .bl (decide (j ≤ i))) geG := od_B fun x y M o e => by
  unfold geG at e
  split at e
  · cases e
    exact ⟨_, _, rfl, rfl, rfl⟩
  · cases e
end

/-! ### == -/
section
variable {K : PySem.W.Frag} {mg : Str → Option Value} {p : List Addr} {M : Hd} {H : Hp}
theorem toP_ok (R : Rl K mg p M H) : ∀ (n : Nat) (d : D) (v : V) (e : PyData), Rep K p H d v → toP M n d = some e → Dp K H v e ∧ e.plain = true ∧ e.depth ≤ n := by
  intro n
  have all : ∀ (n : Nat) (_ : ∀ (d : D) (v : V) (e : PyData), Rep K p H d v → toP M n d = some e → Dp K H v e ∧ e.plain = true ∧ e.depth ≤ n) (ds : List D) (vs : List V) (es : List PyData), Reps K p H ds vs → ds.mapM (toP M n) = some es →
      DpAll K H vs es ∧ PyData.plainAll es = true ∧ PyData.depthAll es ≤ n := by
    intro n ih ds
    induction ds with
    | nil =>
      intro vs es h e
      unfold Reps at h
      subst h
      simp at e
      subst e
      exact ⟨.nil, rfl, Nat.zero_le _⟩
    | cons d ds ih2 =>
      intro vs es h e
      unfold Reps at h
      obtain ⟨v, ws, rfl, r, q⟩ := h
      rw [List.mapM_cons] at e
      cases e1 : toP M n d with
      | none => rw [e1] at e; cases e
      | some x =>
        cases e2 : ds.mapM (toP M n) with
        | none => rw [e1, e2] at e; cases e
        | some xs =>
          rw [e1, e2] at e
          cases e
          obtain ⟨a1, a2, a3⟩ := ih d v x r e1
          obtain ⟨b1, b2, b3⟩ := ih2 ws xs q e2
          refine ⟨.cons a1 b1, ?_, ?_⟩
          · show (x.plain && PyData.plainAll xs) = true
            rw [a2, b2]
            rfl
          · show max x.depth (PyData.depthAll xs) ≤ n
            omega
  induction n with
  | zero =>
    intro d v e h q
    cases d with
    | non => unfold toP at q; cases q; unfold Rep at h; subst h; exact ⟨.non, rfl, Nat.le_refl _⟩
    | bl b => unfold toP at q; cases q; unfold Rep at h; subst h; exact ⟨.bl _, rfl, Nat.le_refl _⟩
    | int b => unfold toP at q; cases q; unfold Rep at h; subst h; exact ⟨.int _, rfl, Nat.le_refl _⟩
    | str b => unfold toP at q; cases q; unfold Rep at h; subst h; exact ⟨.str _, rfl, Nat.le_refl _⟩
    | _ => unfold toP at q; cases q
  | succ n ih =>
    intro d v e h q
    cases d with
    | non => unfold toP at q; cases q; unfold Rep at h; subst h; exact ⟨.non, rfl, Nat.zero_le _⟩
    | bl b => unfold toP at q; cases q; unfold Rep at h; subst h; exact ⟨.bl _, rfl, Nat.zero_le _⟩
    | int b => unfold toP at q; cases q; unfold Rep at h; subst h; exact ⟨.int _, rfl, Nat.zero_le _⟩
    | str b => unfold toP at q; cases q; unfold Rep at h; subst h; exact ⟨.str _, rfl, Nat.zero_le _⟩
    | tup ds =>
      unfold toP at q
      cases e2 : ds.mapM (toP M n) with
      | none => rw [e2] at q; cases q
      | some xs =>
        rw [e2] at q
        cases q
        unfold Rep at h
        obtain ⟨a, vs, rfl, s, r⟩ := h
        obtain ⟨b1, b2, b3⟩ := all n ih ds vs xs r e2
        exact ⟨.tup s b1, b2, Nat.succ_le_succ b3⟩
    | fl ds =>
      unfold toP at q
      cases e2 : ds.mapM (toP M n) with
      | none => rw [e2] at q; cases q
      | some xs =>
        rw [e2] at q
        cases q
        obtain ⟨a, vs, rfl, s, r⟩ := rep_items (ds := ds) R h rfl
        obtain ⟨b1, b2, b3⟩ := all n ih ds vs xs r e2
        unfold Rep at h
        obtain ⟨a', vs', ea, s', r'⟩ := h
        cases ea
        obtain ⟨b1, b2, b3⟩ := all n ih ds vs' xs r' e2
        refine ⟨.lst ?_ b1, b2, Nat.succ_le_succ b3⟩
        rcases s' with ⟨o, s'⟩ | s'
        · exact .inl (.inr ⟨o, s'⟩)
        · exact s' H
    | ref i =>
      unfold toP at q
      split at q
      · rename_i ds ho
        cases e2 : ds.mapM (toP M n) with
        | none => rw [e2] at q; cases q
        | some xs =>
          rw [e2] at q
          cases q
          obtain ⟨a, vs, rfl, _, s, r⟩ := rep_lst R h ho
          obtain ⟨b1, b2, b3⟩ := all n ih ds vs xs r e2
          exact ⟨.lst (SqL.of s) b1, b2, Nat.succ_le_succ b3⟩
      · cases q
end
def rEqP (K : PySem.W.Frag) : R2 := fun x y H Q => ∃ d e, Dp K H x d ∧ Dp K H y e ∧ d.plain = true ∧ e.plain = true ∧ d.depth ≤ 64 ∧ Q (.bl (PyData.eqv d e)) H
def rNeP (K : PySem.W.Frag) : R2 := fun x y H Q => ∃ d e, Dp K H x d ∧ Dp K H y e ∧ d.plain = true ∧ e.plain = true ∧ d.depth ≤ 64 ∧ Q (.bl (!PyData.eqv d e)) H
theorem op_eqP (hu : X.A.units + 64 < cLine) : OpR X (compareOp .Eq) (rEqP X.K) := by
  intro pins s σ H x y v u Q I rx ry h
  obtain ⟨d, e, hd, he, sd, se, hz, q⟩ := h
  obtain ⟨as, r1⟩ := Dp.reads I d x v hd rx
  obtain ⟨bs, r2⟩ := Dp.reads I e y u he ry
  exact SeqAt.eq_plain r1 r2 sd se (by omega) ⟨.bl _, H, I, rfl, q⟩
theorem op_neP (hu : X.A.units + 64 < cLine) : OpR X (compareOp .NotEq) (rNeP X.K) := by
  intro pins s σ H x y v u Q I rx ry h
  obtain ⟨d, e, hd, he, sd, se, hz, q⟩ := h
  obtain ⟨as, r1⟩ := Dp.reads I d x v hd rx
  obtain ⟨bs, r2⟩ := Dp.reads I e y u he ry
  exact SeqAt.ne_plain r1 r2 sd se (by omega) ⟨.bl _, H, I, rfl, q⟩
theorem od_eq {k : Kx} : OD k (rEqP k.K) eqG := by
  intro p M H x y v u o Q W σ R q1 q2 e po
  have gen : ∀ {d e' : PyData}, toP M 9 x = some d → toP M 9 y = some e' → o = .ok (.bl (PyData.eqv d e')) M → rEqP k.K v u H Q := fun {d e'} h1 h2 ho => by
    subst ho
    obtain ⟨a1, a2, a3⟩ := toP_ok R 9 x v d q1 h1
    obtain ⟨b1, b2, b3⟩ := toP_ok R 9 y u e' q2 h2
    exact ⟨d, e', a1, b1, a2, b2, by omega, po.ok R rep_bl⟩
  unfold eqG at e
  split at e
  · cases e
    exact gen rfl rfl rfl
  · cases e
    exact gen rfl rfl rfl
  · split at e
    · rename_i h1 h2
      cases e
      exact gen h1 h2 rfl
    · cases e
theorem od_ne {k : Kx} : OD k (rNeP k.K) neG := by
  intro p M H x y v u o Q W σ R q1 q2 e po
  have gen : ∀ {d e' : PyData}, toP M 9 x = some d → toP M 9 y = some e' → o = .ok (.bl (!PyData.eqv d e')) M → rNeP k.K v u H Q := fun {d e'} h1 h2 ho => by
    subst ho
    obtain ⟨a1, a2, a3⟩ := toP_ok R 9 x v d q1 h1
    obtain ⟨b1, b2, b3⟩ := toP_ok R 9 y u e' q2 h2
    exact ⟨d, e', a1, b1, a2, b2, by omega, po.ok R rep_bl⟩
  unfold neG at e
  split at e
  · cases e
    exact gen rfl rfl rfl
  · cases e
    exact gen rfl rfl rfl
  · split at e
    · rename_i h1 h2
      cases e
      exact gen h1 h2 rfl
    · cases e
end
end DI

end

section
set_option Elab.async false
set_option linter.all false
set_option maxRecDepth 100000
set_option maxHeartbeats 4000000
/-! DI3: tests, calls, displays, items, statements, loops. -/
namespace DI
open PySem PySem.Spec PyProof.Rows L2

section
variable {X : Cx} {z : Zx} {W : WX} {a b c e : Expr} {fa fb fc f : EF} {t u : TF} {pos : Pos} {rest es : List Expr} {g : AF}
/-! ### tests -/
theorem dt_val (h : DE X z W e f) (he : ∀ whole, isTrue e X.env whole = (do let v ← whole; standAt e.pos; holding [v] (truthy v)) := by intro _; rfl) : DT X z W e (tVal f) :=
  (pt_val h he).imp fun _ _ _ q => gE_bOf q
theorem tru_of {k : Kx} {p : List Addr} {M : Hd} {H : Hp} {σ : L2.St} {Q : Bool → Hp → Prop} {d : D} {v : V} {o : Rs Bool} (R : Rl k.K k.mg p M H) (q : Rep k.K p H d v) (e : truD d M = some o) (po : PoE k W rB p H σ o Q) : ∃ b, TruV k.K v H b ∧ Q b H := by
  have emp : ∀ {ds : List D} {vs : List V}, Reps k.K p H ds vs → (!ds.isEmpty) = !vs.isEmpty := fun {ds vs} h => by
    have := reps_len h
    cases ds <;> cases vs <;> first | rfl | simp at this
  cases d with
  | non => cases e; unfold Rep at q; subst q; exact ⟨false, rfl, po.ok R rfl⟩
  | bl b => cases e; unfold Rep at q; subst q; exact ⟨b, rfl, po.ok R rfl⟩
  | int i => cases e; unfold Rep at q; subst q; exact ⟨_, rfl, po.ok R rfl⟩
  | str x =>
    unfold truD at e
    dsimp only at e
    split at e
    · rename_i hl
      cases e
      unfold Rep at q
      subst q
      exact ⟨_, ⟨line_eq hl, rfl⟩, po.ok R rfl⟩
    · cases e
  | tup ds =>
    cases e
    unfold Rep at q
    obtain ⟨a, vs, rfl, s, r⟩ := q
    exact ⟨_, .inr (.inl ⟨vs, s, rfl⟩), po.ok R (emp r).symm⟩
  | fl ds =>
    cases e
    obtain ⟨a, vs, rfl, s, r⟩ := rep_items (ds := ds) R q rfl
    rcases s with s | s
    · exact ⟨_, .inl ⟨vs, s, rfl⟩, po.ok R (emp r).symm⟩
    · exact ⟨_, .inr (.inl ⟨vs, s, rfl⟩), po.ok R (emp r).symm⟩
  | ref i =>
    unfold truD at e
    dsimp only at e
    split at e
    · rename_i ds ho
      cases e
      obtain ⟨a, vs, rfl, _, s, r⟩ := rep_lst R q ho
      exact ⟨_, .inl ⟨vs, SqL.of s, rfl⟩, po.ok R (emp r).symm⟩
    · cases e
theorem dt_tru (h : DE X z W e f) (he : ∀ whole, isTrue e X.env whole = (do let v ← whole; standAt e.pos; holding [v] (truthy v)) := by intro _; rfl) : DT X z W e (tTru f) := by
  refine (pt_truth h he).imp ?_
  rintro σ H Q ⟨p, M, ρ, o, R, L, e, po⟩
  exact gE_bnd R L e po fun d M1 p1 H1 v R1 L1 hl1 hp1 q1 e1 po1 => tru_of R1 q1 e1 po1
theorem gT_and {k : Kx} {σ : L2.St} {H : Hp} {Q : Bool → Hp → Prop} (q : gE k W rB (DI.tAnd t u) σ H Q) : L2.tAnd (gE k W rB t) (gE k W rB u) σ H Q := by
  obtain ⟨p, M, ρ, o, R, L, e, po⟩ := q
  refine gE_bnd R L e po fun d M1 p1 H1 v R1 L1 hl1 hp1 q1 e1 po1 => ?_
  cases q1
  cases d with
  | true => exact ⟨p1, M1, ρ, o, R1, L1, e1, po1⟩
  | false =>
    cases e1
    exact po1.ok R1 rfl
theorem gT_or {k : Kx} {σ : L2.St} {H : Hp} {Q : Bool → Hp → Prop} (q : gE k W rB (DI.tOr t u) σ H Q) : L2.tOr (gE k W rB t) (gE k W rB u) σ H Q := by
  obtain ⟨p, M, ρ, o, R, L, e, po⟩ := q
  refine gE_bnd R L e po fun d M1 p1 H1 v R1 L1 hl1 hp1 q1 e1 po1 => ?_
  cases q1
  cases d with
  | false => exact ⟨p1, M1, ρ, o, R1, L1, e1, po1⟩
  | true =>
    cases e1
    exact po1.ok R1 rfl
theorem dw_and1 (h : DT X z W a t) : DW X z W (.BoolOp .And [a] pos) t := pw_and1 h
theorem dw_or1 (h : DT X z W a t) : DW X z W (.BoolOp .Or [a] pos) t := pw_or1 h
theorem dw_and (ha : DT X z W a t) (hb : DW X z W (.BoolOp .And (b :: rest) pos) u) : DW X z W (.BoolOp .And (a :: b :: rest) pos) (DI.tAnd t u) := (pw_and ha hb).imp fun _ _ _ q => gT_and q
theorem dw_or (ha : DT X z W a t) (hb : DW X z W (.BoolOp .Or (b :: rest) pos) u) : DW X z W (.BoolOp .Or (a :: b :: rest) pos) (DI.tOr t u) := (pw_or ha hb).imp fun _ _ _ q => gT_or q
theorem dt_w (h : DW X z W e t) : DT X z W e t := PW.pt h
theorem dt_not (h : DT X z W a t) : DT X z W (.UnaryOp .Not a pos) (DI.tNot t) := by
  refine (pt_not h).imp ?_
  rintro σ H Q ⟨p, M, ρ, o, R, L, e, po⟩
  refine gE_bnd R L e po fun d M1 p1 H1 v R1 L1 hl1 hp1 q1 e1 po1 => ?_
  cases q1
  cases e1
  exact po1.ok R1 rfl
/-! ### and, or, not as values -/
theorem de_one {op : BoolOp} (h : DE X z W a fa) (hp : PE X (.BoolOp op [a] pos) (gE (Cx.k X z) W (rD (Cx.k X z)) fa)) : DE X z W (.BoolOp op [a] pos) fa := hp
theorem de_and (ha : DE X z W a fa) (hb : DE X z W (.BoolOp .And (b :: rest) pos) fb) : DE X z W (.BoolOp .And (a :: b :: rest) pos) (eAnd fa fb) := by
  refine (pe_and ha hb).imp ?_
  rintro σ H Q ⟨p, M, ρ, o, R, L, e, po⟩
  refine gE_bnd R L e po fun d M1 p1 H1 v R1 L1 hl1 hp1 q1 e1 po1 => ?_
  cases d with
  | bl i =>
    unfold Rep at q1
    subst q1
    refine ⟨i, rfl, ?_⟩
    cases i with
    | true => exact ⟨p1, M1, ρ, o, R1, L1, e1, po1⟩
    | false =>
      cases e1
      exact po1.ok R1 rep_bl
  | _ => cases e1
theorem de_or (ha : DE X z W a fa) (hb : DE X z W (.BoolOp .Or (b :: rest) pos) fb) : DE X z W (.BoolOp .Or (a :: b :: rest) pos) (eOr fa fb) := by
  refine (pe_or ha hb).imp ?_
  rintro σ H Q ⟨p, M, ρ, o, R, L, e, po⟩
  refine gE_bnd R L e po fun d M1 p1 H1 v R1 L1 hl1 hp1 q1 e1 po1 => ?_
  cases d with
  | bl i =>
    unfold Rep at q1
    subst q1
    refine ⟨i, rfl, ?_⟩
    cases i with
    | false => exact ⟨p1, M1, ρ, o, R1, L1, e1, po1⟩
    | true =>
      cases e1
      exact po1.ok R1 rep_bl
  | _ => cases e1
theorem de_not (ha : DE X z W a fa) : DE X z W (.UnaryOp .Not a pos) (eNot fa) := by
  refine (pe_not ha).imp ?_
  rintro σ H Q ⟨p, M, ρ, o, R, L, e, po⟩
  refine gE_bnd R L e po fun d M1 p1 H1 v R1 L1 hl1 hp1 q1 e1 po1 => ?_
  cases d with
  | bl i =>
    unfold Rep at q1
    subst q1
    cases e1
    exact ⟨i, rfl, po1.ok R1 rep_bl⟩
  | _ => cases e1
theorem de_andE (h : DE X z W a fa) : DE X z W (.BoolOp .And [a] pos) fa := pe_one h
theorem de_orE (h : DE X z W a fa) : DE X z W (.BoolOp .Or [a] pos) fa := pe_one h
theorem de_if (ht : DT X z W c t) (ha : DE X z W a fa) (hb : DE X z W b fb) : DE X z W (.IfExp c a b pos) (eIf t fa fb) := by
  refine (pe_ifExp ht ha hb).imp ?_
  rintro σ H Q ⟨p, M, ρ, o, R, L, e, po⟩
  refine gE_bnd R L e po fun d M1 p1 H1 v R1 L1 hl1 hp1 q1 e1 po1 => ?_
  cases q1
  cases d with
  | true => exact ⟨p1, M1, ρ, o, R1, L1, e1, po1⟩
  | false => exact ⟨p1, M1, ρ, o, R1, L1, e1, po1⟩
theorem gE_chain {k : Kx} {r r' : R2} {g g' : G2} (h : OD k r g) (h' : OD k r' g') {σ : L2.St} {H : Hp} {Q : VK} (q : gE k W (rD k) (eChain g g' fa fb fc) σ H Q) :
    tChain r r' (gE k W (rD k) fa) (gE k W (rD k) fb) (gE k W (rD k) fc) σ H Q := by
  obtain ⟨p, M, ρ, o, R, L, e, po⟩ := q
  refine gE_bnd R L e po fun d M1 p1 H1 v R1 L1 hl1 hp1 q1 e1 po1 => ?_
  refine gE_bnd R1 L1 e1 po1 fun d2 M2 p2 H2 w R2 L2 hl2 hp2 q2 e2 po2 => ?_
  cases eg : g d d2 M2 with
  | none => rw [eg] at e2; exact nomatch e2
  | some x =>
    refine h W σ R2 (Rep.up hp2 hl2 _ q1) q2 eg ?_
    rw [eg] at e2
    cases x with
    | er c M3 =>
      cases e2
      exact po2
    | ok d3 M3 =>
      intro p3 H3 v3 hp3 hl3 R3 q3
      dsimp only [bnd_ok] at e2
      cases d3 with
      | bl i =>
        unfold Rep at q3
        subst q3
        refine ⟨i, rfl, ?_⟩
        have po3 : PoE k W (rD k) p3 H3 σ o Q := by
          cases o with
          | ok d2 M2 => exact fun p2 H2 v2 hp2 hl2 R2 q2 => po2 p2 H2 v2 (hp3.trans hp2) (hl3.trans hl2) R2 q2
          | er c M2 => exact fun p2 H2 C hp2 hl2 R2 q2 => po2 p2 H2 C (hp3.trans hp2) (hl3.trans hl2) R2 q2
        cases i with
        | true =>
          refine gE_bnd R3 (L2.up hp3 hl3) e2 po3 fun d4 M4 p4 H4 w4 R4 L4 hl4 hp4 q4 e4 po4 => ?_
          exact h' W σ R4 (Rep.up (hp3.trans hp4) (hl3.trans hl4) _ q2) q4 e4 po4
        | false =>
          cases e2
          exact po3.ok R3 rep_bl
      | _ => exact nomatch e2
theorem de_chain {op op' : CmpOp} {r r' : R2} {g g' : G2} (ho : OpR X (compareOp op) r) (h : OD (Cx.k X z) r g) (ho' : OpR X (compareOp op') r') (h' : OD (Cx.k X z) r' g') (ha : DE X z W a fa) (hb : DE X z W b fb) (hc : DE X z W c fc)
    (hm : lastMarks [op, op'] [b, c] = false := by with_unfolding_all rfl) : DE X z W (.Compare a [op, op'] [b, c] pos) (eChain g g' fa fb fc) :=
  (pe_chain ho ho' ha hb hc hm).imp fun _ _ _ q => gE_chain h h' q
theorem dt_chain {op op' : CmpOp} {r r' : R2} {g g' : G2} (ho : OpR X (compareOp op) r) (h : OD (Cx.k X z) r g) (ho' : OpR X (compareOp op') r') (h' : OD (Cx.k X z) r' g') (ha : DE X z W a fa) (hb : DE X z W b fb) (hc : DE X z W c fc)
    (hm : lastMarks [op, op'] [b, c] = false := by with_unfolding_all rfl) : DT X z W (.Compare a [op, op'] [b, c] pos) (tVal (eChain g g' fa fb fc)) := by
  refine (pt_chain ho ho' ha hb hc hm).imp fun σ H Q q => ?_
  have q2 := gE_bOf q
  exact gE_chain (Q := fun x H' => ∃ c, x = .bl c ∧ Q c H') h h' q2
/-- is None -/
theorem rep_isN {K : PySem.W.Frag} {p : List Addr} {H : Hp} {d : D} {v : V} (q : Rep K p H d v) : decide (v = .non) = d.isNon := by
  cases d <;> (unfold Rep at q) <;> first
    | (subst q; rfl)
    | (obtain ⟨a, vs, rfl, _⟩ := q; rfl)
    | (obtain ⟨a, _, rfl⟩ := q; rfl)
theorem de_isN {j : Nat} {pos' : Pos} (ha : DE X z W a fa) : DE X z W (.Compare a [.Is] [.Constant .none j pos'] pos) (isN fa) := by
  refine (pe_cmp (pc_isN ha)).imp ?_
  rintro σ H Q ⟨p, M, ρ, o, R, L, e, po⟩
  refine gE_bnd R L e po fun d M1 p1 H1 v R1 L1 hl1 hp1 q1 e1 po1 => ?_
  cases e1
  rw [rep_isN q1]
  exact po1.ok R1 rep_bl
theorem de_isNN {j : Nat} {pos' : Pos} (ha : DE X z W a fa) : DE X z W (.Compare a [.IsNot] [.Constant .none j pos'] pos) (isNN fa) := by
  refine (pe_cmp (pc_notN ha)).imp ?_
  rintro σ H Q ⟨p, M, ρ, o, R, L, e, po⟩
  refine gE_bnd R L e po fun d M1 p1 H1 v R1 L1 hl1 hp1 q1 e1 po1 => ?_
  cases e1
  rw [rep_isN q1]
  exact po1.ok R1 rep_bl
theorem dt_isN {j : Nat} {pos' : Pos} (ha : DE X z W a fa) : DT X z W (.Compare a [.Is] [.Constant .none j pos'] pos) (tVal (isN fa)) := by
  refine (pt_cmp (pc_isN ha)).imp fun σ H Q q => ?_
  obtain ⟨p, M, ρ, o, R, L, e, po⟩ := gE_bOf q
  refine gE_bnd R L e po fun d M1 p1 H1 v R1 L1 hl1 hp1 q1 e1 po1 => ?_
  cases e1
  rw [rep_isN q1]
  exact po1.ok R1 rep_bl
theorem dt_isNN {j : Nat} {pos' : Pos} (ha : DE X z W a fa) : DT X z W (.Compare a [.IsNot] [.Constant .none j pos'] pos) (tVal (isNN fa)) := by
  refine (pt_cmp (pc_notN ha)).imp fun σ H Q q => ?_
  obtain ⟨p, M, ρ, o, R, L, e, po⟩ := gE_bOf q
  refine gE_bnd R L e po fun d M1 p1 H1 v R1 L1 hl1 hp1 q1 e1 po1 => ?_
  cases e1
  rw [rep_isN q1]
  exact po1.ok R1 rep_bl

/-! ### arguments, displays, calls -/
theorem da_nil : DA X z W [] aNil := by
  refine pa_nil.imp ?_
  rintro σ H Q ⟨p, M, ρ, o, R, L, e, po⟩
  cases e
  exact po.ok R reps_nil
theorem da_cons (ha : DE X z W e f) (hr : DA X z W es g) (hs : starEach (e :: es) X.env = (false, eval e X.env) :: starEach es X.env := by rfl) : DA X z W (e :: es) (aCons f g) := by
  refine (pa_cons ha hr hs).imp ?_
  rintro σ H Q ⟨p, M, ρ, o, R, L, e, po⟩
  refine gE_bnd R L e po fun d M1 p1 H1 v R1 L1 hl1 hp1 q1 e1 po1 => ?_
  refine gE_bnd R1 L1 e1 po1 fun ds M2 p2 H2 vs R2 L2 hl2 hp2 q2 e2 po2 => ?_
  cases e2
  exact po2.ok R2 (reps_cons (Rep.up hp2 hl2 _ q1) q2)
theorem de_tup {x1 : Nat} (h : DA X z W es g) : DE X z W (.Tuple es x1 pos) (eTup g) := by
  refine (pe_tup h).imp ?_
  rintro σ H Q ⟨p, M, ρ, o, R, L, e, po⟩
  refine gE_bnd R L e po fun ds M1 p1 H1 vs R1 L1 hl1 hp1 q1 e1 po1 => ?_
  split at e1
  · rename_i hl
    cases e1
    exact ⟨by rw [← reps_len q1]; exact line_eq hl, po_tup R1 po1 q1⟩
  · cases e1
theorem de_lst (h : DA X z W es g) : DE X z W (.List es pos) (eLst g) := by
  refine (pe_lst h).imp ?_
  rintro σ H Q ⟨p, M, ρ, o, R, L, e, po⟩
  refine gE_bnd R L e po fun ds M1 p1 H1 vs R1 L1 hl1 hp1 q1 e1 po1 => ?_
  split at e1
  · rename_i hl
    cases e1
    exact ⟨by rw [← reps_len q1]; exact line_eq hl, po_lst R1 po1 q1⟩
  · cases e1
/-- what a def promises: its mirror -/
def spD (K : PySem.W.Frag) (mg : Str → Option Value) (n : Nat) (m : List D → Hd → Option (Rs D)) : Sp := fun vs H Q E => ∃ p M ds o, Rl K mg p M H ∧ Reps K p H ds vs ∧ ds.length = n ∧ m ds M = some o ∧ match o with
  | .ok d M' => ∀ p' H' v, p <+: p' → Le H H' → Rl K mg p' M' H' → Rep K p' H' d v → Q v H'
  | .er c M' => ∀ p' H' C, p <+: p' → Le H H' → Rl K mg p' M' H' → mg c = some (.ref C) → E (.ref C) none H'
/-- a def of the module, by its mirror -/
structure Dfn (P : Program) (w : World) (K : PySem.W.Frag) (mg : Str → Option Value) (base : Heap) (k : Nat) (x : Str) (n : Nat) (m : List D → Hd → Option (Rs D)) : Prop where
  ln : ∀ ds M o, m ds M = some o → ds.length = n
  ex : ∃ f fd ps, mg x = some (.ref f) ∧ PySem.W.keepIn K (.ref f) = true ∧ Binds K fd ps [] ∧ FnOk P w K mg base (L2.CX P w) k f fd ps (spD K mg n m)
theorem Dfn.mono {P : Program} {w : World} {K : PySem.W.Frag} {mg : Str → Option Value} {base : Heap} {j k : Nat} {x : Str} {n : Nat} {m : List D → Hd → Option (Rs D)} (h : Dfn P w K mg base j x n m) (hk : j ≤ k) : Dfn P w K mg base k x n m := by
  obtain ⟨f, fd, ps, a, b, c, d⟩ := h.ex
  exact ⟨h.ln, f, fd, ps, a, b, c, d.mono hk⟩
/-- with a mirror that says less -/
theorem Dfn.imp {P : Program} {w : World} {K : PySem.W.Frag} {mg : Str → Option Value} {base : Heap} {k : Nat} {x : Str} {n : Nat} {m m' : List D → Hd → Option (Rs D)} (h : Dfn P w K mg base k x n m) (hm : ∀ ds M o, m' ds M = some o → m ds M = some o) : Dfn P w K mg base k x n m' := by
  obtain ⟨f, fd, ps, a, b, c, d⟩ := h.ex
  refine ⟨fun ds M o e => h.ln ds M o (hm ds M o e), f, fd, ps, a, b, c, d.imp ?_⟩
  rintro vs H Q E ⟨p, M, ds, o, R, L, l, e, po⟩
  exact ⟨p, M, ds, o, R, L, l, hm ds M o e, po⟩
theorem sp_of {k : Kx} {n : Nat} {m : List D → Hd → Option (Rs D)} {p : List Addr} {M : Hd} {H : Hp} {σ : L2.St} {Q : VK} {ds : List D} {vs : List V} {o : Rs D} (R : Rl k.K k.mg p M H) (q : Reps k.K p H ds vs) (hn : ds.length = n) (e : m ds M = some o) (po : PoE k W (rD k) p H σ o Q) :
    spD k.K k.mg n m vs H Q (fun cls d H' => W cls d σ H') := by
  refine ⟨p, M, ds, o, R, q, hn, e, ?_⟩
  cases o with
  | ok d M' => exact po
  | er c M' => exact po
theorem de_call {k n : Nat} {x : Str} {m : List D → Hd → Option (Rs D)} {p' : Pos} (F : Dfn X.prog X.w X.K X.mg X.base k x n m) (tk : Takes X W) (hr : Room k X.A) (ha : DA X z W (e :: es) g) (hg : Gl X x := by rfl) (hdb : (x == ("__debug__" : Str)) = false := by decide)
    (he : starEach (e :: es) X.env = (false, eval e X.env) :: starEach es X.env := by rfl) (hpl : (backTo pos (starEach es X.env)).any (·.1) = false := by rfl) : DE X z W (.Call (.Name x p') (e :: es) [] pos) (eCall m g) := by
  obtain ⟨f, fd, ps, h1, h2, h3, h4⟩ := F.ex
  refine (pe_callSD h4 hr hg h1 h2 h3 .nil (E := fun σ cls d H' => W cls d σ H') (fun σ => passAt tk σ) ha hdb he hpl).imp ?_
  rintro σ H Q ⟨p, M, ρ, o, R, L, e, po⟩
  refine gE_bnd R L e po fun ds M1 p1 H1 vs R1 L1 hl1 hp1 q1 e1 po1 => ?_
  rw [List.append_nil]
  exact sp_of R1 q1 (F.ln _ _ _ e1) e1 po1

/-! ### len, items -/
theorem len_of {k : Kx} {p : List Addr} {M : Hd} {H : Hp} {σ : L2.St} {Q : VK} {d : D} {v : V} {o : Rs D} (R : Rl k.K k.mg p M H) (q : Rep k.K p H d v) (e : lenD d M = some o) (po : PoE k W (rD k) p H σ o Q) : ∃ n, LenV k.K v H n ∧ Q (.int n) H := by
  cases d with
  | str x =>
    unfold lenD at e
    dsimp only at e
    split at e
    · rename_i hl
      cases e
      unfold Rep at q
      subst q
      exact ⟨_, ⟨line_eq hl, rfl⟩, po.ok R rep_int⟩
    · cases e
  | tup ds =>
    cases e
    obtain ⟨a, vs, rfl, s, r⟩ := rep_items (ds := ds) R q rfl
    exact ⟨vs.length, s.elim (fun s => .inl ⟨vs, s, rfl⟩) fun s => .inr ⟨vs, s, rfl⟩, po.ok R (by rw [reps_len r]; exact rep_int)⟩
  | fl ds =>
    cases e
    obtain ⟨a, vs, rfl, s, r⟩ := rep_items (ds := ds) R q rfl
    exact ⟨vs.length, s.elim (fun s => .inl ⟨vs, s, rfl⟩) fun s => .inr ⟨vs, s, rfl⟩, po.ok R (by rw [reps_len r]; exact rep_int)⟩
  | ref i =>
    unfold lenD at e
    dsimp only at e
    split at e
    · rename_i ds ho
      cases e
      obtain ⟨a, vs, rfl, _, s, r⟩ := rep_lst R q ho
      exact ⟨vs.length, .inl ⟨vs, SqL.of s, rfl⟩, po.ok R (by rw [reps_len r]; exact rep_int)⟩
    · cases e
  | _ => cases e
theorem de_len {p' : Pos} (ha : DE X z W e f) (hm : X.mg "len" = none) (hg : Gl X "len" := by rfl) (he : starEach [e] X.env = (false, eval e X.env) :: starEach [] X.env := by rfl) : DE X z W (.Call (.Name "len" p') [e] [] pos) (eUn lenD f) := by
  refine (pe_callB call_len hg hm PySem.boot_len (pa_cons ha pa_nil he) (he := he)).imp ?_
  rintro σ H Q ⟨p, M, ρ, o, R, L, e, po⟩
  refine gE_bnd R L e po fun d M1 p1 H1 v R1 L1 hl1 hp1 q1 e1 po1 => ?_
  obtain ⟨n, h1, h2⟩ := len_of R1 q1 e1 po1
  exact ⟨v, n, rfl, h1, h2⟩
theorem od_ix {k : Kx} : OD k (rIx k.K) ixG := by
  intro p M H x y v u o Q W σ R q1 q2 e po
  cases y with
  | int i =>
    unfold Rep at q2
    subst q2
    have got : ∀ {ds : List D} {vs : List V}, Reps k.K p H ds vs → pr M (atI ds i) = some o → ∃ w, atI vs i = some w ∧ Q w H := fun {ds vs} r e => by
      cases e2 : atI ds i with
      | none => rw [e2] at e; cases e
      | some d =>
        rw [e2] at e
        cases e
        obtain ⟨w, h1, h2⟩ := reps_atI r e2
        exact ⟨w, h1, po.ok R h2⟩
    cases x with
    | tup ds =>
      unfold Rep at q1
      obtain ⟨a, vs, rfl, s, r⟩ := q1
      obtain ⟨w, h1, h2⟩ := got r e
      exact .inr (.inl ⟨a, vs, i, w, rfl, rfl, s, h1, h2⟩)
    | fl ds =>
      obtain ⟨a, vs, rfl, s, r⟩ := rep_items (ds := ds) R q1 rfl
      obtain ⟨w, h1, h2⟩ := got r e
      rcases s with s | s
      · exact .inl ⟨a, vs, i, w, rfl, rfl, s, h1, h2⟩
      · exact .inr (.inl ⟨a, vs, i, w, rfl, rfl, s, h1, h2⟩)
    | ref j =>
      unfold ixG at e
      dsimp only at e
      split at e
      · rename_i ds ho
        obtain ⟨a, vs, rfl, _, s, r⟩ := rep_lst R q1 ho
        obtain ⟨w, h1, h2⟩ := got r e
        exact .inl ⟨a, vs, i, w, rfl, rfl, SqL.of s, h1, h2⟩
      · cases e
    | str x =>
      unfold ixG at e
      dsimp only at e
      split at e
      · rename_i hl
        unfold Rep at q1
        subst q1
        cases e2 : atI x.cps.toList i with
        | none => rw [e2] at e; cases e
        | some c =>
          rw [e2] at e
          cases e
          exact .inr (.inr ⟨x, i, c, rfl, rfl, line_eq hl, e2, po.ok R rep_str⟩)
      · cases e
    | _ => cases e
  | _ => cases e
theorem de_ix (ha : DE X z W a fa) (hb : DE X z W b fb) (hs : PlainIx b := by exact fun _ _ => rfl) : DE X z W (.Subscript a b pos) (eOp ixG fa fb) :=
  (pe_ix ix_seq ha hb hs).imp fun _ _ _ q => gE_op od_ix q
end

/-! ### statements -/
def PoS (k : Kx) (W : WX) (p : List Addr) (H : Hp) (o : Fl × Hd) (Dn : Ends) : Prop := match o with
  | (.nx r, M) => ∀ p' H' σ', p <+: p' → Le H H' → Rl k.K k.mg p' M H' → Sl k.K k.z p' H' r σ' → Dn.nx σ' H'
  | (.bk r, M) => ∀ p' H' σ', p <+: p' → Le H H' → Rl k.K k.mg p' M H' → Sl k.K k.z p' H' r σ' → Dn.bk σ' H'
  | (.ct r, M) => ∀ p' H' σ', p <+: p' → Le H H' → Rl k.K k.mg p' M H' → Sl k.K k.z p' H' r σ' → Dn.ct σ' H'
  | (.rt d, M) => ∀ p' H' v, p <+: p' → Le H H' → Rl k.K k.mg p' M H' → Rep k.K p' H' d v → Dn.rt v H'
  | (.xx c r, M) => ∀ p' H' σ' C, p <+: p' → Le H H' → Rl k.K k.mg p' M H' → Sl k.K k.z p' H' r σ' → k.mg c = some (.ref C) → W (.ref C) none σ' H'
theorem PoS.up {k : Kx} {W : WX} {p p1 : List Addr} {H H1 : Hp} {o : Fl × Hd} {Dn : Ends} (h : PoS k W p H o Dn) (hp : p <+: p1) (hl : Le H H1) : PoS k W p1 H1 o Dn := by
  obtain ⟨f, M⟩ := o
  cases f with
  | nx r => exact fun p' H' s' a b c d => h p' H' s' (hp.trans a) (hl.trans b) c d
  | bk r => exact fun p' H' s' a b c d => h p' H' s' (hp.trans a) (hl.trans b) c d
  | ct r => exact fun p' H' s' a b c d => h p' H' s' (hp.trans a) (hl.trans b) c d
  | rt r => exact fun p' H' s' a b c d => h p' H' s' (hp.trans a) (hl.trans b) c d
  | xx c r => exact fun p' H' s' C a b c d => h p' H' s' C (hp.trans a) (hl.trans b) c d
def gS (k : Kx) (W : WX) (g : SF) : TS := fun Dn σ H => ∃ p M r o, Rl k.K k.mg p M H ∧ Sl k.K k.z p H r σ ∧ g r M = some o ∧ PoS k W p H o Dn
def DS (X : Cx) (z : Zx) (W : WX) (st : Stmt) (g : SF) : Prop := PS X st (gS (Cx.k X z) W g)
def DSs (X : Cx) (z : Zx) (W : WX) (st : List Stmt) (g : SF) : Prop := PSs X st (gS (Cx.k X z) W g)
section
variable {k : Kx} {W : WX} {α β : Type} {Re : List Addr → Hp → α → β → Prop}
theorem gE_exB {f : Ev → Hd → Option (Rs α)} {g : α → Hd → Option (Fl × Hd)} {r : Ev} {M : Hd} {p : List Addr} {σ : L2.St} {H : Hp} {o : Fl × Hd} {Dn : Ends} {S : β → Hp → Prop} (R : Rl k.K k.mg p M H) (L : Sl k.K k.z p H r σ)
    (e : exB (f r M) r g = some o) (po : PoS k W p H o Dn)
    (h : ∀ d M1 p1 H1 v, Rl k.K k.mg p1 M1 H1 → Sl k.K k.z p1 H1 r σ → Le H H1 → p <+: p1 → Re p1 H1 d v → g d M1 = some o → PoS k W p1 H1 o Dn → S v H1) : gE k W Re f σ H S := by
  cases ef : f r M with
  | none => rw [ef] at e; exact nomatch e
  | some x =>
    refine ⟨p, M, r, x, R, L, ef, ?_⟩
    rw [ef] at e
    cases x with
    | er c M1 =>
      cases e
      exact fun p1 H1 C hp hl R1 q => po p1 H1 σ C hp hl R1 (L.up hp hl) q
    | ok d M1 =>
      intro p1 H1 v hp hl R1 q
      exact h d M1 p1 H1 v R1 (L.up hp hl) hl hp q e (po.up hp hl)
end
theorem PoS.nx {k : Kx} {W : WX} {p : List Addr} {H : Hp} {r : Ev} {M : Hd} {Dn : Ends} (po : PoS k W p H (.nx r, M) Dn) {σ : L2.St} (R : Rl k.K k.mg p M H) (L : Sl k.K k.z p H r σ) : Dn.nx σ H := po p H σ (List.prefix_refl p) (Le.refl H) R L
theorem PoS.rt {k : Kx} {W : WX} {p : List Addr} {H : Hp} {d : D} {M : Hd} {Dn : Ends} (po : PoS k W p H (.rt d, M) Dn) {v : V} (R : Rl k.K k.mg p M H) (q : Rep k.K p H d v) : Dn.rt v H := po p H v (List.prefix_refl p) (Le.refl H) R q
section
variable {X : Cx} {z : Zx} {W : WX} {a b c e : Expr} {fa fb fc f : EF} {t u : TF} {pos : Pos} {st : Stmt} {rest sa sb : List Stmt} {g h : SF}
theorem dss_nil : DSs X z W [] sNil := by
  refine pss_nil.imp ?_
  rintro Dn σ H ⟨p, M, ρ, o, R, L, e, po⟩
  cases e
  exact po.nx R L
theorem dss_cons (h1 : DS X z W st g) (h2 : DSs X z W rest h) : DSs X z W (st :: rest) (sSeq g h) := by
  refine (pss_cons h1 h2).imp ?_
  rintro Dn σ H ⟨p, M, ρ, o, R, L, e, po⟩
  unfold sSeq at e
  cases eg : g ρ M with
  | none => rw [eg] at e; exact nomatch e
  | some x =>
    refine ⟨p, M, ρ, x, R, L, eg, ?_⟩
    rw [eg] at e
    obtain ⟨fl, M1⟩ := x
    cases fl with
    | nx r1 => exact fun p1 H1 σ1 hp hl R1 L1 => ⟨p1, M1, r1, o, R1, L1, e, po.up hp hl⟩
    | bk r1 => cases e; exact po
    | ct r1 => cases e; exact po
    | rt d => cases e; exact po
    | xx c r1 => cases e; exact po
theorem dss_one (h1 : DS X z W st g) : DSs X z W [st] g := pss_one h1
theorem dss_seq {g h : SF} (h1 : DS X z W st g) (h2 : DSs X z W rest h) : DSs X z W (st :: rest) (sSeq g h) := dss_cons h1 h2
theorem ds_pass : DS X z W (.Pass pos) sNil := by
  refine ps_pass.imp ?_
  rintro Dn σ H ⟨p, M, ρ, o, R, L, e, po⟩
  cases e
  exact po.nx R L
theorem ds_break : DS X z W (.Break pos) sBreak := by
  refine ps_break.imp ?_
  rintro Dn σ H ⟨p, M, ρ, o, R, L, e, po⟩
  cases e
  exact po p H σ (List.prefix_refl p) (Le.refl H) R L
theorem ds_cont : DS X z W (.Continue pos) sCont := by
  refine ps_continue.imp ?_
  rintro Dn σ H ⟨p, M, ρ, o, R, L, e, po⟩
  cases e
  exact po p H σ (List.prefix_refl p) (Le.refl H) R L
theorem ds_set {x : Str} {pos' : Pos} (i : Nat) (hN : X.N.Nodup) (he : DE X z W e f) (hi : X.N[i]? = some x := by rfl) (hx : Loc X.env.scope x := by first | exact Or.inl rfl | exact Or.inr rfl) (hs : swapsWith e (some (.Name x pos')) pos.line X.env = pure false := by rfl)
    (hf : X.fn x = true ∨ X.env.scope.names.lookup x = some .local := by first | exact .inl rfl | exact .inr rfl | assumption) : DS X z W (.Assign [.Name x pos'] e pos) (sAsg i f) := by
  refine (ps_set hN hi hx he hs hf).imp ?_
  rintro Dn σ H ⟨p, M, ρ, o, R, L, e, po⟩
  refine gE_exB R L e po fun d M1 p1 H1 v R1 L1 hl1 hp1 q1 e1 po1 => ?_
  cases e1
  exact po1.nx R1 (L1.set i q1)
theorem ds_par {x y : Str} {px py pt : Pos} {kt k2 : Nat} {pt2 : Pos} (i j : Nat) (hc : X.calm = true) (hN : X.N.Nodup) (ha : DE X z W a fa) (hb : DE X z W b fb) (hi : X.N[i]? = some x := by rfl) (hj : X.N[j]? = some y := by rfl) (hij : i ≠ j := by decide)
    (hx : X.env.scope.names.lookup x = some .local := by rfl) (hy : X.env.scope.names.lookup y = some .local := by rfl)
    (hw : swappedStores [.Tuple [.Name x px, .Name y py] kt pt] (.Tuple [a, b] k2 pt2) X.env = pure (some [x, y]) := by rfl)
    (hs : swapsWithSole [.Tuple [.Name x px, .Name y py] kt pt] (.Tuple [a, b] k2 pt2) pos.line X.env = pure false := by rfl)
    (hsa : starEach [a, b] X.env = (false, eval a X.env) :: starEach [b] X.env := by rfl) (hsb : starEach [b] X.env = (false, eval b X.env) :: starEach [] X.env := by rfl) :
    DS X z W (.Assign [.Tuple [.Name x px, .Name y py] kt pt] (.Tuple [a, b] k2 pt2) pos) (sPar i j fa fb) := by
  refine (ps_par hc hN hi hj hij hx hy (pa_cons ha (pa_cons hb pa_nil hsb) hsa) hw hs).imp ?_
  rintro Dn σ H ⟨p, M, ρ, o, R, L, e, po⟩
  refine gE_exB R L e po fun d M1 p1 H1 v R1 L1 hl1 hp1 q1 e1 po1 => ?_
  refine gE_exB R1 L1 e1 po1 fun d2 M2 p2 H2 w R2 L2 hl2 hp2 q2 e2 po2 => ?_
  cases e2
  exact ⟨v, w, rfl, po2.nx R2 ((L2.set i (Rep.up hp2 hl2 _ q1)).set j q2)⟩
theorem ds_drop (he : DE X z W e f) (hs : swapsWith e none pos.line X.env = pure false := by rfl) : DS X z W (.Expr e pos) (sDrop f) := by
  refine (ps_expr he hs).imp ?_
  rintro Dn σ H ⟨p, M, ρ, o, R, L, e, po⟩
  refine gE_exB R L e po fun d M1 p1 H1 v R1 L1 hl1 hp1 q1 e1 po1 => ?_
  cases e1
  exact po1.nx R1 L1
theorem ds_ret (he : DE X z W e f) : DS X z W (.Return (some e) pos) (sRet f) := by
  refine (ps_ret he).imp ?_
  rintro Dn σ H ⟨p, M, ρ, o, R, L, e, po⟩
  refine gE_exB R L e po fun d M1 p1 H1 v R1 L1 hl1 hp1 q1 e1 po1 => ?_
  cases e1
  exact po1.rt R1 q1
theorem ds_retN : DS X z W (.Return none pos) sRetN := by
  refine ps_retN.imp ?_
  rintro Dn σ H ⟨p, M, ρ, o, R, L, e, po⟩
  cases e
  exact po.rt R rep_non
theorem ds_if (hc : DT X z W c t) (ha : DSs X z W sa g) (hb : DSs X z W sb h) : DS X z W (.If c sa sb pos) (sIf t g h) := by
  refine (ps_if hc ha hb).imp ?_
  rintro Dn σ H ⟨p, M, ρ, o, R, L, e, po⟩
  refine gE_exB R L e po fun d M1 p1 H1 v R1 L1 hl1 hp1 q1 e1 po1 => ?_
  cases q1
  cases d with
  | true => exact ⟨p1, M1, ρ, o, R1, L1, e1, po1⟩
  | false => exact ⟨p1, M1, ρ, o, R1, L1, e1, po1⟩
/-- x op= e -/
theorem ds_aug {x : Str} {op : Operator} {r : R2} {g : G2} {pos' : Pos} (i : Nat) (hN : X.N.Nodup) (ho : PIp X op r) (hg : OD (Cx.k X z) r g) (he : DE X z W e f) (hi : X.N[i]? = some x := by rfl) (hx : Loc X.env.scope x := by first | exact Or.inl rfl | exact Or.inr rfl)
    (hf : X.fn x = true ∨ X.env.scope.names.lookup x = some .local := by first | exact .inl rfl | exact .inr rfl | assumption) : DS X z W (.AugAssign (.Name x pos') op e pos) (sAug g i f) := by
  refine (ps_aug hN hi hx he ho hf).imp ?_
  rintro Dn σ H ⟨p, M, ρ, o, R, L, e, po⟩
  unfold sAug at e
  split at e
  · rename_i d hd
    obtain ⟨v, hv, q⟩ := L.at_ i d hd
    refine ⟨v, hv, ?_⟩
    refine gE_exB R L e po fun d1 M1 p1 H1 v1 R1 L1 hl1 hp1 q1 e1 po1 => ?_
    cases eg : g d d1 M1 with
    | none => rw [eg] at e1; cases e1
    | some o2 =>
      refine hg W σ R1 (Rep.up hp1 hl1 _ q) q1 eg ?_
      rw [eg] at e1
      cases o2 with
      | ok d2 M2 =>
        cases e1
        exact fun p2 H2 v2 hp2 hl2 R2 q2 => po1 p2 H2 _ hp2 hl2 R2 ((L1.up hp2 hl2).set i q2)
      | er c M2 =>
        cases e1
        exact fun p2 H2 C hp2 hl2 R2 q2 => po1 p2 H2 σ C hp2 hl2 R2 (L1.up hp2 hl2) q2
  · cases e
theorem ip_op {op : Operator} {r : R2} (h : OpR X (inplaceOp op) r) : PIp X op r := fun pins s σ H x y v u Q I r1 r2 q => h pins s σ H x y v u Q I r1 r2 q
theorem ds_while {hp : PassesOwn (model X.prog X.w) X.A X.env X.xe} (hc : DT X z W c t) (hb : DSs X z W sa g) : DS X z W (.While c sa [] pos) (sWhile t g) := by
  refine (ps_while hp hc hb).imp ?_
  rintro Dn σ H ⟨p, M, ρ, o, R, L, e, po⟩
  obtain ⟨n, e⟩ := of_sWhile e
  refine ⟨fun m σ' H' => ∃ p' M' r', Rl X.K X.mg p' M' H' ∧ Sl X.K z p' H' r' σ' ∧ wIter t g m r' M' = some o ∧ PoS (Cx.k X z) W p' H' o Dn, ⟨n, p, M, ρ, R, L, e, po⟩, ?_⟩
  rintro m σ' H' ⟨p', M', r', R', L', e', po'⟩
  cases m with
  | zero => exact nomatch e'
  | succ m =>
    unfold wIter at e'
    refine gE_exB R' L' e' po' fun d M1 p1 H1 v R1 L1 hl1 hp1 q1 e1 po1 => ?_
    cases q1
    cases d with
    | false =>
      cases e1
      exact po1.nx R1 L1
    | true =>
      rw [if_pos rfl]
      rw [if_pos rfl] at e1
      refine ⟨fun σ2 H2 => ∃ p' M' r', Rl X.K X.mg p' M' H2 ∧ Sl X.K z p' H2 r' σ2 ∧ wIter t g m r' M' = some o ∧ PoS (Cx.k X z) W p' H2 o Dn, fun σ2 H2 h2 => ⟨m, Nat.lt_succ_self m, h2⟩, ?_⟩
      cases eg : g r' M1 with
      | none => rw [eg] at e1; exact nomatch e1
      | some x =>
        refine ⟨p1, M1, r', x, R1, L1, eg, ?_⟩
        rw [eg] at e1
        obtain ⟨fl, M2⟩ := x
        cases fl with
        | nx r2 => exact fun p2 H2 σ2 hp2 hl2 R2 L2 => ⟨p2, M2, r2, R2, L2, e1, po1.up hp2 hl2⟩
        | ct r2 => exact fun p2 H2 σ2 hp2 hl2 R2 L2 => ⟨p2, M2, r2, R2, L2, e1, po1.up hp2 hl2⟩
        | bk r2 => cases e1; exact po1
        | rt d => cases e1; exact po1
        | xx c r2 => cases e1; exact po1
end
end DI

end

section
set_option Elab.async false
set_option linter.all false
set_option maxRecDepth 100000
set_option maxHeartbeats 4000000
/-! DI4: built-ins, targets, iterators, for, comprehensions, defs. -/
namespace DI
open PySem PySem.Spec PyProof.Rows L2

/-! ### isinstance -/
theorem kit_all (a b : Ty) : kitB a.nm b.nm = some (a.sub b) := by cases a <;> cases b <;> decide +kernel
theorem sqT_ty {K : PySem.W.Frag} {H : Hp} {a : Addr} {vs : List V} (h : SqT K H a vs) : TyX K H (.ref a) (.type "tuple") := by
  rcases h with (h | ⟨o, h⟩) | ⟨o, its, n, h, c, _⟩
  · exact .base (.tup h)
  · exact .fTuple h
  · exact .kTuple h c
theorem ty_of {k : Kx} {p : List Addr} {M : Hd} {H : Hp} {d : D} {v : V} {t : Ty} (R : Rl k.K k.mg p M H) (q : Rep k.K p H d v) (e : tyD d M = some t) : TyX k.K H v (.type t.nm) := by
  cases d with
  | non => cases e; unfold Rep at q; subst q; exact .base .non
  | bl b => cases e; unfold Rep at q; subst q; exact .base (.bl _)
  | int b => cases e; unfold Rep at q; subst q; exact .base (.int _)
  | str b => cases e; unfold Rep at q; subst q; exact .base (.str _)
  | tup ds =>
    cases e
    unfold Rep at q
    obtain ⟨a, vs, rfl, s, _⟩ := q
    exact sqT_ty s
  | fl ds =>
    cases e
    unfold Rep at q
    obtain ⟨a, vs, rfl, s, _⟩ := q
    rcases s with ⟨o, s⟩ | s
    · exact .base (.frz s)
    · rcases s (fun _ => none) with (h | ⟨o, h⟩) | ⟨o, its, n, h, c, _⟩
      · cases h
      · cases h
      · exact .kList h c
  | ref i =>
    unfold tyD at e
    dsimp only at e
    unfold Rep at q
    obtain ⟨a, ha, rfl⟩ := q
    split at e
    · rename_i ds ho
      cases e
      obtain ⟨b, hb, vs, e1, _⟩ := R.ob i _ ho
      rw [ha] at hb
      cases hb
      exact .base (.lst e1)
    · rename_i ds ho
      cases e
      obtain ⟨b, hb, vs, e1, _⟩ := R.ob i _ ho
      rw [ha] at hb
      cases hb
      exact .base (.dK e1)
    · rename_i ds ho
      cases e
      obtain ⟨b, hb, vs, e1, _⟩ := R.ob i _ ho
      rw [ha] at hb
      cases hb
      exact .base (.dT e1)
    · cases e
section
variable {X : Cx} {z : Zx} {W : WX} {a b c e : Expr} {fa fb fc f : EF} {t u : TF} {pos : Pos} {rest es : List Expr} {g : AF}
theorem de_isi {x : Str} {p' p2 : Pos} (T : Ty) (ha : DE X z W e f) (hm : X.mg "isinstance" = none) (hmT : X.mg x = none) (hb : bootBuiltins x = some (.type T.nm)) (hg : Gl X "isinstance" := by rfl) (hgT : Gl X x := by rfl) (hn : x ≠ "__name__" := by decide) (hdb : (x == ("__debug__" : Str)) = false := by decide)
    (he : starEach [e, .Name x p2] X.env = (false, eval e X.env) :: starEach [.Name x p2] X.env := by rfl) (hpl : (backTo pos (starEach [.Name x p2] X.env)).any (·.1) = false := by rfl) (he2 : starEach [.Name x p2] X.env = (false, eval (.Name x p2) X.env) :: starEach [] X.env := by rfl) :
    DE X z W (.Call (.Name "isinstance" p') [e, .Name x p2] [] pos) (eUn (isiG T) f) := by
  refine (pe_callB call_isi hg hm PyProof.Rows.boot_isinstance (pa_cons ha (pa_cons (pe_bltn (v := .ty T.nm) hgT hmT hb rfl hn hdb) pa_nil he2) he) (he := he) (hpl := hpl)).imp ?_
  rintro σ H Q ⟨p, M, ρ, o, R, L, e, po⟩
  refine gE_bnd R L e po fun d M1 p1 H1 v R1 L1 hl1 hp1 q1 e1 po1 => ?_
  unfold isiG at e1
  split at e1
  · rename_i t ht
    cases e1
    exact ⟨v, .ty T.nm, .type t.nm, .type T.nm, _, rfl, .ty _, ty_of R1 q1 ht, kit_ty (kit_all t T), po1.ok R1 rep_bl⟩
  · cases e1
/-! ### list, tuple, max, min -/
theorem de_list {p' : Pos} (ha : DE X z W e f) (hm : X.mg "list" = none) (hg : Gl X "list" := by rfl) (he : starEach [e] X.env = (false, eval e X.env) :: starEach [] X.env := by rfl) : DE X z W (.Call (.Name "list" p') [e] [] pos) (eUn listG f) := by
  refine (pe_callTy call_list_of hg hm PyProof.Rows.boot_list (pa_cons ha pa_nil he) (he := he)).imp ?_
  rintro σ H Q ⟨p, M, ρ, o, R, L, e, po⟩
  refine gE_bnd R L e po fun d M1 p1 H1 v R1 L1 hl1 hp1 q1 e1 po1 => ?_
  unfold listG at e1
  split at e1
  · rename_i ds hd
    cases e1
    obtain ⟨a, vs, rfl, s, r⟩ := rep_items R1 q1 hd
    exact ⟨a, vs, rfl, s, po_lst R1 po1 r⟩
  · cases e1
theorem de_tuple {p' : Pos} (ha : DE X z W e f) (hm : X.mg "tuple" = none) (hg : Gl X "tuple" := by rfl) (he : starEach [e] X.env = (false, eval e X.env) :: starEach [] X.env := by rfl) : DE X z W (.Call (.Name "tuple" p') [e] [] pos) (eUn tupleG f) := by
  refine (pe_callTy call_tuple_of hg hm PyProof.Rows.boot_tuple (pa_cons ha pa_nil he) (he := he)).imp ?_
  rintro σ H Q ⟨p, M, ρ, o, R, L, e, po⟩
  refine gE_bnd R L e po fun d M1 p1 H1 v R1 L1 hl1 hp1 q1 e1 po1 => ?_
  cases d with
  | tup ds =>
    cases e1
    unfold Rep at q1
    obtain ⟨a, vs, rfl, s, r⟩ := q1
    exact ⟨a, vs, rfl, .inr ⟨s, po1.ok R1 (rep_tup s r)⟩⟩
  | fl ds =>
    cases e1
    unfold Rep at q1
    obtain ⟨a, vs, rfl, s, r⟩ := q1
    refine ⟨a, vs, rfl, .inl ⟨?_, po_tup R1 po1 r⟩⟩
    rcases s with ⟨o, s⟩ | s
    · exact .inl (.inr ⟨o, s⟩)
    · exact s H1
  | ref i =>
    unfold tupleG at e1
    dsimp only at e1
    split at e1
    · rename_i ds ho
      cases e1
      obtain ⟨a, vs, rfl, _, s, r⟩ := rep_lst R1 q1 ho
      exact ⟨a, vs, rfl, .inl ⟨SqL.of s, po_tup R1 po1 r⟩⟩
    · cases e1
  | _ => cases e1
/-- a built-in that gives an int of some ints -/
theorem ga2 {k : Kx} {p : List Addr} {H : Hp} {i j : Int} {vs : List V} (q : Reps k.K p H [.int i, .int j] vs) : vs = [.int i, .int j] := by
  unfold Reps at q
  obtain ⟨v, ws, rfl, a, q⟩ := q
  unfold Reps at q
  obtain ⟨v2, ws, rfl, b, q⟩ := q
  unfold Reps at q
  unfold Rep at a b
  subst a b q
  rfl
theorem de_max2 {p' : Pos} (hc : X.calm = true) (ha : DA X z W (e :: es) g) (hm : X.mg "max" = none) (hg : Gl X "max" := by rfl) (he : starEach (e :: es) X.env = (false, eval e X.env) :: starEach es X.env := by rfl) (hpl : (backTo pos (starEach es X.env)).any (·.1) = false := by rfl) :
    DE X z W (.Call (.Name "max" p') (e :: es) [] pos) (eCB max2 g) := by
  refine (pe_callB (call_max2 hc) hg hm PyProof.Rows.boot_max ha (he := he) (hpl := hpl)).imp ?_
  rintro σ H Q ⟨p, M, ρ, o, R, L, e, po⟩
  refine gE_bnd R L e po fun d M1 p1 H1 v R1 L1 hl1 hp1 q1 e1 po1 => ?_
  unfold max2 at e1
  split at e1
  · cases e1
    exact ⟨_, _, ga2 (k := Cx.k X z) q1, po1.ok R1 rep_int⟩
  · cases e1
theorem de_min2 {p' : Pos} (hc : X.calm = true) (ha : DA X z W (e :: es) g) (hm : X.mg "min" = none) (hg : Gl X "min" := by rfl) (he : starEach (e :: es) X.env = (false, eval e X.env) :: starEach es X.env := by rfl) (hpl : (backTo pos (starEach es X.env)).any (·.1) = false := by rfl) :
    DE X z W (.Call (.Name "min" p') (e :: es) [] pos) (eCB min2 g) := by
  refine (pe_callB (call_min2 hc) hg hm PyProof.Rows.boot_min ha (he := he) (hpl := hpl)).imp ?_
  rintro σ H Q ⟨p, M, ρ, o, R, L, e, po⟩
  refine gE_bnd R L e po fun d M1 p1 H1 v R1 L1 hl1 hp1 q1 e1 po1 => ?_
  unfold min2 at e1
  split at e1
  · cases e1
    exact ⟨_, _, ga2 (k := Cx.k X z) q1, po1.ok R1 rep_int⟩
  · cases e1
/-! ### methods of lists -/
theorem rep_put {k : Kx} {p : List Addr} {M : Hd} {H : Hp} {σ : L2.St} {Q : VK} {i : Nat} {a : Addr} {ds : List D} {vs : List V} {d : D} {v : V} (R : Rl k.K k.mg p M H) (ha : p[i]? = some a) (r : Reps k.K p H ds vs) (q : Rep k.K p H d v) (po : PoE k W (rD k) p H σ (.ok d (M.set i (.lst ds))) Q) : Q v (upd H a (.lst vs)) := by
  obtain ⟨R2, hl⟩ := R.put (u := .lst vs) (o := .lst ds) ha fun hl => ⟨vs, upd_same, Reps.up (List.prefix_refl p) hl _ r⟩
  exact po p _ v (List.prefix_refl p) hl R2 (Rep.up (List.prefix_refl p) hl _ q)
theorem gE_lm {g : Nat → List D → List D → Hd → Option (Rs D)} {r : V → List V → Hp → VK → Prop} {k : Kx} {ga : AF} (h : ∀ {p M H a i ds vs as ws o Q} (σ : L2.St), Rl k.K k.mg p M H → p[i]? = some a → M[i]? = some (.lst ds) → H a = some (.lst vs) → Reps k.K p H ds vs → Reps k.K p H as ws → g i ds as M = some o → PoE k W (rD k) p H σ o Q → r (.ref a) ws H Q)
    {σ : L2.St} {H : Hp} {Q : VK} (q : gE k W (rD k) (eLm g f ga) σ H Q) : tBM k.K "list" r (gE k W (rD k) f) (gE k W (rA k) ga) σ H Q := by
  obtain ⟨p, M, ρ, o, R, L, e, po⟩ := q
  refine gE_bnd R L e po fun d M1 p1 H1 v R1 L1 hl1 hp1 q1 e1 po1 => ?_
  cases d with
  | ref i =>
    dsimp only at e1
    split at e1
    · rename_i ds0 ho
      obtain ⟨a, vs0, rfl, ha, s, r0⟩ := rep_lst R1 q1 ho
      refine ⟨.inl ⟨rfl, _, SqL.of s⟩, ?_⟩
      refine gE_bnd R1 L1 e1 po1 fun as M2 p2 H2 ws R2 L2 hl2 hp2 q2 e2 po2 => ?_
      split at e2
      · rename_i ds ho2
        obtain ⟨a2, vs, e3, ha2, s2, r2⟩ := rep_lst R2 (Rep.up hp2 hl2 _ q1) ho2
        cases e3
        exact h σ R2 ha2 ho2 s2 r2 q2 e2 po2
      · cases e2
    · cases e1
  | _ => cases e1
theorem reps1 {k : Kx} {p : List Addr} {H : Hp} {d : D} {ws : List V} (q : Reps k.K p H [d] ws) : ∃ v, ws = [v] ∧ Rep k.K p H d v := by
  unfold Reps at q
  obtain ⟨v, ws, rfl, a, q⟩ := q
  unfold Reps at q
  subst q
  exact ⟨v, rfl, a⟩
theorem de_append {ap : Pos} (ha : DE X z W a fa) (hb : DA X z W (e :: es) g) (hbm : attributeBase a "append" X.env (eval a X.env) = eval a X.env := by rfl) (he : starEach (e :: es) X.env = (false, eval e X.env) :: starEach es X.env := by rfl)
    (hfew : ((backTo pos (starEach (e :: es) X.env)).all (fun x => !x.1) && (backToKw pos (keywordEach [] X.env)).all (fun x => x.1.isSome) && decide ((e :: es).length + ([] : List Keyword).length + (if ([] : List Keyword).isEmpty then 0 else 1) < 30)) = true := by rfl)
    (hln : (ap.endLine == pos.line) = true := by rfl) (hpl : (backTo pos (starEach es X.env)).any (·.1) = false := by rfl) : DE X z W (.Call (.Attribute a "append" ap) (e :: es) [] pos) (eLm appendG fa g) := by
  refine (pe_bm PySem.F.plainAttrs_list PySem.F.slot_list_append PySem.F.type_list_append mt_append ha hb hbm hfew hln he hpl).imp fun σ H Q q => ?_
  refine gE_lm (k := Cx.k X z) (fun {p M H a i ds vs as ws o Q} σ R ha ho s r0 q1 e po => ?_) q
  unfold appendG at e
  split at e
  · split at e
    · rename_i hl
      cases e
      obtain ⟨v, rfl, q3⟩ := reps1 q1
      exact ⟨a, vs, v, rfl, rfl, s, by rw [← reps_len r0]; exact line_lt hl, rep_put R ha (reps_app r0 (reps_cons q3 reps_nil)) rep_non po⟩
    · cases e
  · cases e
theorem de_extend {ap : Pos} (ha : DE X z W a fa) (hb : DA X z W (e :: es) g) (hbm : attributeBase a "extend" X.env (eval a X.env) = eval a X.env := by rfl) (he : starEach (e :: es) X.env = (false, eval e X.env) :: starEach es X.env := by rfl)
    (hfew : ((backTo pos (starEach (e :: es) X.env)).all (fun x => !x.1) && (backToKw pos (keywordEach [] X.env)).all (fun x => x.1.isSome) && decide ((e :: es).length + ([] : List Keyword).length + (if ([] : List Keyword).isEmpty then 0 else 1) < 30)) = true := by rfl)
    (hln : (ap.endLine == pos.line) = true := by rfl) (hpl : (backTo pos (starEach es X.env)).any (·.1) = false := by rfl) : DE X z W (.Call (.Attribute a "extend" ap) (e :: es) [] pos) (eLm extendG fa g) := by
  refine (pe_bm PySem.F.plainAttrs_list PySem.F.slot_list_extend PySem.F.type_list_extend mt_extend ha hb hbm hfew hln he hpl).imp fun σ H Q q => ?_
  refine gE_lm (k := Cx.k X z) (fun {p M H a i ds vs as ws o Q} σ R ha ho s r0 q1 e po => ?_) q
  unfold extendG at e
  split at e
  · split at e
    · rename_i j es' hj
      split at e
      · rename_i hl
        cases e
        obtain ⟨v, rfl, q3⟩ := reps1 q1
        obtain ⟨b, us, rfl, _, s2, r2⟩ := rep_lst R q3 hj
        exact ⟨a, b, vs, us, rfl, rfl, s, s2, by rw [← reps_len r0, ← reps_len r2]; exact line_eq hl, rep_put R ha (reps_app r0 r2) rep_non po⟩
      · cases e
    · cases e
  · cases e
theorem reps_dropLast {k : Kx} {p : List Addr} {H : Hp} {ds : List D} {vs : List V} (h : Reps k.K p H ds vs) : Reps k.K p H ds.dropLast vs.dropLast := by
  rw [List.dropLast_eq_take, List.dropLast_eq_take, reps_len h]
  exact reps_take _ h
theorem de_pop {ap : Pos} (ha : DE X z W a fa) (hbm : attributeBase a "pop" X.env (eval a X.env) = eval a X.env := by rfl) (hln : (ap.endLine == pos.line) = true := by rfl) : DE X z W (.Call (.Attribute a "pop" ap) [] [] pos) (eLm popG fa aNil) := by
  refine (pe_bm0 PySem.F.plainAttrs_list PySem.F.slot_list_pop PySem.F.type_list_pop mt_pop ha hbm hln).imp fun σ H Q q => ?_
  obtain ⟨p, M, ρ, o, R, L, e, po⟩ := q
  refine gE_bnd R L e po fun d M1 p1 H1 v R1 L1 hl1 hp1 q1 e1 po1 => ?_
  cases d with
  | ref i =>
    dsimp only at e1
    split at e1
    · rename_i ds ho
      obtain ⟨a, vs, rfl, ha, s, r0⟩ := rep_lst R1 q1 ho
      refine ⟨.inl ⟨rfl, _, SqL.of s⟩, ?_⟩
      unfold aNil at e1
      simp only [bnd_ok, ho] at e1
      unfold popG at e1
      split at e1
      · rename_i y hy
        cases e1
        obtain ⟨u, h1, h2⟩ := reps_get r0 hy
        exact ⟨a, vs, u, rfl, rfl, s, by rw [← reps_len r0]; exact h1, rep_put R1 ha (reps_dropLast (k := Cx.k X z) r0) h2 po1⟩
      · cases e1
    · cases e1
  | _ => cases e1
/-! ### slices -/
def rO : List Addr → Hp → Option Int → Option Int → Prop := fun _ _ a b => b = a
def DO (X : Cx) (z : Zx) (W : WX) (e : Option Expr) (f : OF) : Prop := PO X e (gE (Cx.k X z) W rO f)
theorem do_none : DO X z W none oNone := by
  refine ⟨fun pins s σ H Q I h => po_none.run pins s σ H Q I ?_⟩
  obtain ⟨p, M, ρ, o, R, L, e, po⟩ := h
  cases e
  exact po.ok R rfl
theorem do_some (h : DE X z W e f) : DO X z W (some e) (oSome f) := by
  refine ⟨fun pins s σ H Q I h' => (po_some h).run pins s σ H Q I ?_⟩
  obtain ⟨p, M, ρ, o, R, L, e, po⟩ := h'
  refine gE_bnd R L e po fun d M1 p1 H1 v R1 L1 hl1 hp1 q1 e1 po1 => ?_
  cases d with
  | int i =>
    cases e1
    unfold Rep at q1
    exact ⟨i, q1, po1.ok R1 rfl⟩
  | _ => cases e1
theorem reps_cut {k : Kx} {p : List Addr} {H : Hp} {ds : List D} {vs : List V} (h : Reps k.K p H ds vs) (lo hi : Option Int) : Reps k.K p H (cutD ds lo hi) (cutV vs lo hi) := by
  unfold cutD cutV
  rw [← reps_len h]
  exact reps_take _ (reps_drop _ h)
theorem cut_all {α : Type} {ds : List α} {lo hi : Option Int} (h : HT.sIx ds.length 0 lo = 0 ∧ HT.sIx ds.length ds.length hi = ds.length) : cutD ds lo hi = ds := by
  unfold cutD
  rw [h.1, h.2]
  simp
theorem de_slice {lo hi : Option Expr} {fl fh : OF} {p2 : Pos} (he : DE X z W e f) (hl : DO X z W lo fl) (hh : DO X z W hi fh) : DE X z W (.Subscript e (.Slice lo hi none p2) pos) (eSl f fl fh) := by
  refine (pe_slice (sl_list.or sl_tupA) he hl hh).imp ?_
  rintro σ H Q ⟨p, M, ρ, o, R, L, e, po⟩
  refine gE_bnd R L e po fun d M1 p1 H1 v R1 L1 hl1 hp1 q1 e1 po1 => ?_
  refine gE_bnd R1 L1 e1 po1 fun l M2 p2 H2 l' R2 L2 hl2 hp2 q2 e2 po2 => ?_
  refine gE_bnd R2 L2 e2 po2 fun u M3 p3 H3 u' R3 L3 hl3 hp3 q3 e3 po3 => ?_
  cases q2
  cases q3
  have q4 := Rep.up (hp2.trans hp3) (hl2.trans hl3) _ q1
  cases d with
  | tup ds =>
    cases e3
    unfold Rep at q4
    obtain ⟨a, vs, rfl, s, r⟩ := q4
    refine .inr ⟨a, vs, rfl, s, fun hw => ?_, fun hw => po_tup R3 po3 (reps_cut (k := Cx.k X z) r l u)⟩
    rw [← reps_len r] at hw
    rw [cut_all hw] at po3
    exact po3.ok R3 (rep_tup s r)
  | fl ds =>
    cases e3
    unfold Rep at q4
    obtain ⟨a, vs, rfl, s, r⟩ := q4
    refine .inl ⟨a, vs, rfl, ?_, po_lst R3 po3 (reps_cut (k := Cx.k X z) r l u)⟩
    rcases s with ⟨o, s⟩ | s
    · exact .inl (.inr ⟨o, s⟩)
    · exact s H3
  | ref i =>
    unfold sliceD at e3
    dsimp only at e3
    split at e3
    · rename_i ds ho
      cases e3
      obtain ⟨a, vs, rfl, _, s, r⟩ := rep_lst R3 q4 ho
      exact .inl ⟨a, vs, rfl, SqL.of s, po_lst R3 po3 (reps_cut (k := Cx.k X z) r l u)⟩
    · cases e3
  | _ => cases e3
theorem reps_rev {k : Kx} {p : List Addr} {H : Hp} : ∀ {ds : List D} {vs : List V}, Reps k.K p H ds vs → Reps k.K p H ds.reverse vs.reverse
  | [], _, h => by unfold Reps at h; subst h; exact reps_nil
  | d :: ds, _, h => by
    unfold Reps at h
    obtain ⟨v, ws, rfl, r, q⟩ := h
    rw [List.reverse_cons, List.reverse_cons]
    exact reps_app (reps_rev q) (reps_cons r reps_nil)
theorem de_rev {kk : Nat} {p1 p2 p3 : Pos} (he : DE X z W e f) : DE X z W (.Subscript e (.Slice none none (some (.UnaryOp .USub (.Constant (.int 1) kk p1) p2)) p3) pos) (eUn revG f) := by
  refine (pe_revL he).imp ?_
  rintro σ H Q ⟨p, M, ρ, o, R, L, e, po⟩
  refine gE_bnd R L e po fun d M1 p1 H1 v R1 L1 hl1 hp1 q1 e1 po1 => ?_
  cases d with
  | fl ds =>
    cases e1
    unfold Rep at q1
    obtain ⟨a, vs, rfl, s, r⟩ := q1
    refine ⟨a, vs, rfl, ?_, po_lst R1 po1 (reps_rev (k := Cx.k X z) r)⟩
    rcases s with ⟨o, s⟩ | s
    · exact .inl (.inr ⟨o, s⟩)
    · exact s H1
  | ref i =>
    unfold revG at e1
    dsimp only at e1
    split at e1
    · rename_i ds ho
      cases e1
      obtain ⟨a, vs, rfl, _, s, r⟩ := rep_lst R1 q1 ho
      exact ⟨a, vs, rfl, SqL.of s, po_lst R1 po1 (reps_rev (k := Cx.k X z) r)⟩
    · cases e1
  | _ => cases e1
/-! ### o[i] = e -/
theorem rep_putS {k : Kx} {p : List Addr} {M : Hd} {H : Hp} {i : Nat} {a : Addr} {ds : List D} {vs : List V} {r : Ev} {σ : L2.St} {Dn : Ends} (R : Rl k.K k.mg p M H) (L : Sl k.K k.z p H r σ) (ha : p[i]? = some a) (rr : Reps k.K p H ds vs) (po : PoS k W p H (.nx r, M.set i (.lst ds)) Dn) : Dn.nx σ (upd H a (.lst vs)) := by
  obtain ⟨R2, hl⟩ := R.put (u := .lst vs) (o := .lst ds) ha fun hl => ⟨vs, upd_same, Reps.up (List.prefix_refl p) hl _ rr⟩
  exact po p _ σ (List.prefix_refl p) hl R2 (L.up (List.prefix_refl p) hl)
theorem ds_setI {o i : Expr} {fo fi : EF} {p2 : Pos} (he : DE X z W e f) (ho : DE X z W o fo) (hi : DE X z W i fi)
    (ha : ∀ v, assign (.Subscript o i p2) X.env v = (do
      let ov ← holding [v] (eval o X.env)
      let iv ← holding [v, ov] (eval i X.env)
      standAt p2
      holding [v, ov, iv] (setItem ov iv v)
      release [v, ov, iv] []) := by intro _; rfl)
    (hs : swapsWithSole [.Subscript o i p2] e pos.line X.env = pure false := by rfl) (hw : swappedStores [.Subscript o i p2] e X.env = pure none := by rfl)
    (h1 : (assignEach [.Subscript o i p2] X.env).map (·.2) = [assign (.Subscript o i p2) X.env] := by rfl) : DS X z W (.Assign [.Subscript o i p2] e pos) (sSetI f fo fi) := by
  refine (ps_asg he (pg_sub ho hi set_list ha) hs hw h1).imp ?_
  rintro Dn σ H ⟨p, M, ρ, oo, R, L, e, po⟩
  refine gE_exB R L e po fun d M1 p1 H1 v R1 L1 hl1 hp1 q1 e1 po1 => ?_
  refine gE_exB R1 L1 e1 po1 fun d2 M2 p2 H2 v2 R2 L2 hl2 hp2 q2 e2 po2 => ?_
  refine gE_exB R2 L2 e2 po2 fun d3 M3 p3 H3 v3 R3 L3 hl3 hp3 q3 e3 po3 => ?_
  cases d2 with
  | ref i =>
    cases d3 with
    | int j =>
      dsimp only at e3
      split at e3
      · rename_i ds ho
        split at e3
        · rename_i n hn
          cases e3
          obtain ⟨a, vs, rfl, ha, s, r⟩ := rep_lst R3 (Rep.up hp3 hl3 _ q2) ho
          unfold Rep at q3
          refine ⟨a, vs, j, n, rfl, q3, s, by rw [← reps_len r]; exact hn, ?_⟩
          exact rep_putS R3 L3 ha (reps_set (Rep.up (hp2.trans hp3) (hl2.trans hl3) _ q1) n r) po3
        · cases e3
      · cases e3
    | _ => cases e3
  | _ => cases e3
end
end DI

end

section
set_option Elab.async false
set_option linter.all false
set_option maxRecDepth 100000
set_option maxHeartbeats 4000000
/-! DI5: targets, iterators, for, comprehensions, defs. -/
namespace DI
open PySem PySem.Spec PyProof.Rows L2

/-! ### slots forgotten -/
theorem wipe_at (σ : L2.St) : ∀ (vs : List Nat) (j : Nat), (wipe σ vs)[j]? = if j ∈ vs ∧ j < σ.length then some none else σ[j]?
  | [], j => by simp [wipe]
  | v :: vs, j => by
    unfold wipe
    rw [List.getElem?_set, wipe_at σ vs j, wipe_length]
    by_cases h : v = j
    · subst h
      by_cases hl : v < σ.length <;> simp [hl]
    · have h' : ¬ j = v := fun e => h e.symm
      simp [h, h']
theorem wipe_set {σ : L2.St} {i : Nat} {a : Option V} {vs : List Nat} (h : i ∈ vs) : wipe (σ.set i a) vs = wipe σ vs := by
  apply List.ext_getElem?
  intro j
  rw [wipe_at, wipe_at, List.length_set, List.getElem?_set]
  by_cases hj : j ∈ vs ∧ j < σ.length
  · rw [if_pos hj, if_pos hj]
  · rw [if_neg hj, if_neg hj]
    by_cases e : i = j
    · subst e
      have : ¬ i < σ.length := fun q => hj ⟨h, q⟩
      simp [this]
    · simp [e]
theorem wipe_wipe (σ : L2.St) (vs : List Nat) : wipe (wipe σ vs) vs = wipe σ vs := by
  apply List.ext_getElem?
  intro j
  rw [wipe_at, wipe_at, wipe_length]
  by_cases hj : j ∈ vs ∧ j < σ.length <;> simp [hj]
theorem wip_at (r : Ev) : ∀ (vs : List Nat) (j : Nat), (wip r vs)[j]? = if j ∈ vs ∧ j < r.length then some none else r[j]?
  | [], j => by simp [wip]
  | v :: vs, j => by
    have hl : ∀ vs, (wip r vs).length = r.length := fun vs => by
      induction vs with
      | nil => rfl
      | cons v vs ih => unfold wip; rw [List.length_set, ih]
    unfold wip
    rw [List.getElem?_set, wip_at r vs j, hl]
    by_cases h : v = j
    · subst h
      by_cases hl : v < r.length <;> simp [hl]
    · have h' : ¬ j = v := fun e => h e.symm
      simp [h, h']
theorem wip_length (r : Ev) : ∀ vs, (wip r vs).length = r.length
  | [] => rfl
  | v :: vs => by unfold wip; rw [List.length_set, wip_length r vs]
theorem Sl.wip {K : PySem.W.Frag} {p : List Addr} {H : Hp} {r : Ev} {σ : L2.St} (s : Sl K none p H r σ) (vs : List Nat) : Sl K none p H (wip r vs) (wipe σ vs) := by
  refine ⟨by rw [wip_length, wipe_length]; exact s.len, fun i d e => ?_, fun a i e => nomatch e⟩
  rw [wip_at] at e
  split at e
  · cases e
  · rename_i h
    obtain ⟨v, hv, q⟩ := s.at_ i d e
    refine ⟨v, ?_, q⟩
    rw [wipe_at, if_neg (by rw [← s.len]; exact h)]
    exact hv

/-! ### targets -/
def gG (k : Kx) (t : Tg) : TG := fun v σ H Q => ∃ p M r d r1, Rl k.K k.mg p M H ∧ Sl k.K k.z p H r σ ∧ Rep k.K p H d v ∧ t.put d r = some r1 ∧
  ∀ σ', Sl k.K k.z p H r1 σ' → (∀ vs, (∀ i ∈ t.sl, i ∈ vs) → wipe σ' vs = wipe σ vs) → Q σ' H
def DG (X : Cx) (z : Zx) (e : Expr) (t : Tg) : Prop := PG X e (gG (Cx.k X z) t)
theorem _root_.L2.PG.imp {X : Cx} {e : Expr} {t u : TG} (h : PG X e t) (q : ∀ v σ H Q, u v σ H Q → t v σ H Q) : PG X e u := ⟨fun pins s σ H v u Q I r k => h.run pins s σ H v u Q I r (q _ _ _ _ k)⟩
section
variable {X : Cx} {z : Zx} {W : WX} {a b c e : Expr} {fa fb fc f : EF} {t u : TF} {pos : Pos} {st : Stmt} {rest sa sb : List Stmt} {g h : SF}
theorem dg_nm {x : Str} (i : Nat) (hN : X.N.Nodup) (hi : X.N[i]? = some x := by rfl) (hx : Loc X.env.scope x := by first | exact Or.inl rfl | exact Or.inr rfl) (hf : X.fn x = true ∨ X.env.scope.names.lookup x = some .local := by first | exact .inl rfl | exact .inr rfl | assumption) : DG X z (.Name x pos) (.nm i) := by
  refine (pg_name hN hi hx hf).imp ?_
  rintro v σ H Q ⟨p, M, r, d, r1, R, L, q, e, k⟩
  cases e
  exact k _ (L.set i q) fun vs hv => wipe_set (hv i (by simp [Tg.sl]))
/-- several names -/
def gGs (k : Kx) (l : List Nat) : TGs := fun ws σ H Q => ∃ p M r ds r1, Rl k.K k.mg p M H ∧ Sl k.K k.z p H r σ ∧ Reps k.K p H ds ws ∧ setAll l ds r = some r1 ∧
  ∀ σ', Sl k.K k.z p H r1 σ' → (∀ vs, (∀ i ∈ l, i ∈ vs) → wipe σ' vs = wipe σ vs) → Q σ' H
def DGs (X : Cx) (z : Zx) (es : List Expr) (l : List Nat) : Prop := PGs X es (gGs (Cx.k X z) l)
theorem dgs_nil : DGs X z [] [] := by
  refine ⟨fun pins s σ H vs us Q I r h => (pgs_nil (X := X)).run pins s σ H vs us Q I r ?_⟩
  obtain ⟨p, M, ρ, ds, r1, R, L, q, e, k⟩ := h
  cases ds with
  | nil =>
    cases e
    unfold Reps at q
    exact ⟨q, k _ L fun vs _ => rfl⟩
  | cons _ _ => cases e
theorem dgs_cons {x : Str} {es : List Expr} {l : List Nat} (i : Nat) (hN : X.N.Nodup) (hr : DGs X z es l) (hi : X.N[i]? = some x := by rfl) (hx : Loc X.env.scope x := by first | exact Or.inl rfl | exact Or.inr rfl) (hf : X.fn x = true ∨ X.env.scope.names.lookup x = some .local := by first | exact .inl rfl | exact .inr rfl | assumption)
    (hs : (assignEach (.Name x pos :: es) X.env).map (·.2) = assign (.Name x pos) X.env :: (assignEach es X.env).map (·.2) := by rfl) : DGs X z (.Name x pos :: es) (i :: l) := by
  refine ⟨fun pins s σ H vs us Q I r h => (pgs_cons (pg_name hN hi hx hf) hr hs).run pins s σ H vs us Q I r ?_⟩
  obtain ⟨p, M, ρ, ds, r1, R, L, q, e, k⟩ := h
  cases ds with
  | nil => cases e
  | cons d ds =>
    unfold Reps at q
    obtain ⟨v, ws, rfl, q1, q2⟩ := q
    refine ⟨v, ws, rfl, ?_⟩
    refine ⟨p, M, ρ.set i (some d), ds, r1, R, L.set i q1, q2, e, fun σ' L' w => k σ' L' fun vs hv => ?_⟩
    rw [w vs fun j hj => hv j (List.mem_cons_of_mem _ hj)]
    exact wipe_set (hv i List.mem_cons_self)
theorem dg_tp {es : List Expr} {kk : Nat} {l : List Nat} {n : Nat} (hc : X.calm = true) (h : DGs X z es l) (hl : l.length = n := by rfl) (hn : (assignEach es X.env).length = n := by rfl) (hst : (assignEach es X.env).findIdx? (·.1) = none := by rfl) : DG X z (.Tuple es kk pos) (.tp l) := by
  refine (pg_tup (n := n) hc h hn hst).imp ?_
  rintro v σ H Q ⟨p, M, r, d, r1, R, L, q, e, k⟩
  cases d with
  | tup ds =>
    unfold Rep at q
    obtain ⟨a, vs, rfl, s, rr⟩ := q
    have hlen : ∀ (l : List Nat) (ds : List D) (r r1 : Ev), setAll l ds r = some r1 → ds.length = l.length := by
      intro l
      induction l with
      | nil => intro ds r r1 e; cases ds with | nil => rfl | cons _ _ => cases e
      | cons i l ih => intro ds r r1 e; cases ds with | nil => cases e | cons d ds => rw [List.length_cons, List.length_cons, ih ds _ _ e]
    exact ⟨a, vs, rfl, s, by rw [← reps_len rr, hlen l ds r r1 e, hl], p, M, r, ds, r1, R, L, rr, e, k⟩
  | _ => cases e
theorem ds_asgT {es : List Expr} {kk : Nat} {p2 : Pos} {l : List Nat} (he : DE X z W e f) (hg : DG X z (.Tuple es kk p2) (.tp l)) (hs : swapsWithSole [.Tuple es kk p2] e pos.line X.env = pure false := by rfl) (hw : swappedStores [.Tuple es kk p2] e X.env = pure none := by rfl)
    (h1 : (assignEach [.Tuple es kk p2] X.env).map (·.2) = [assign (.Tuple es kk p2) X.env] := by rfl) : DS X z W (.Assign [.Tuple es kk p2] e pos) (sAsgT l f) := by
  refine (ps_asg he hg hs hw h1).imp ?_
  rintro Dn σ H ⟨p, M, ρ, o, R, L, e, po⟩
  refine gE_exB R L e po fun d M1 p1 H1 v R1 L1 hl1 hp1 q1 e1 po1 => ?_
  split at e1
  · rename_i r1 hr1
    cases e1
    exact ⟨p1, M1, ρ, d, r1, R1, L1, q1, hr1, fun σ' L' _ => po1.nx R1 L'⟩
  · cases e1
end

/-! ### iterators -/
def ItOk (k : Kx) (p0 : List Addr) (H0 : Hp) (x : List D × Gd) (J : It) : Prop := ∀ (n : Nat) (p : List Addr) (M : Hd) (H : Hp), p0 <+: p → Le H0 H → Rl k.K k.mg p M H → Still x.2 M →
  (∀ d, x.1[n]? = some d → J.go n H ∧ ∀ v H', J.yld n H v H' → Le H H' ∧ Rl k.K k.mg p M H' ∧ Rep k.K p H' d v) ∧ (n = x.1.length → J.stop n H)
def DI_ (X : Cx) (z : Zx) (W : WX) (tg e : Expr) (f : IF) : Prop := PI X tg e (gE (Cx.k X z) W (ItOk (Cx.k X z)) f)
theorem _root_.L2.PI.imp {X : Cx} {tg e : Expr} {t u : TI} (h : PI X tg e t) (q : ∀ σ H R, u σ H R → t σ H R) : PI X tg e u := ⟨fun pins s σ H R I k => h.run pins s σ H R I (q _ _ _ k)⟩
section
variable {X : Cx} {z : Zx} {W : WX} {a b c e tg : Expr} {fa fb fc f : EF} {t u : TF} {pos : Pos} {st : Stmt} {rest sa sb : List Stmt} {g h : SF}
/-- a list or a tuple -/
def iSq (K : PySem.W.Frag) (tl : TE) : TI := fun σ H R => tl σ H fun x H1 => ∃ a, x = .ref a ∧ (((∃ xs, SqL K H1 a xs) ∧ R (Itl K a) H1) ∨ ((∃ xs, SqT K H1 a xs) ∧ R (Itt K a) H1))
theorem pi_sq {l : Expr} {tl : TE} (hl : PE X l tl) : PI X tg l (iSq X.K tl) := by
  refine ⟨fun pins s σ H R I h => ?_⟩
  refine thn (hl.run pins s σ H _ I h) fun v s1 ⟨x, H1, I1, r1, q1⟩ => ?_
  obtain ⟨a, e, q⟩ := q1
  subst e
  cases r1
  rcases q with ⟨⟨xs, hq⟩, q⟩ | ⟨⟨xs, hq⟩, q⟩
  · obtain ⟨its, rv, p, hz⟩ := I1.list hq
    refine wpAny_pyIter_list p.isList ?_
    refine ⟨s1.heap.objs.size, [s1.heap.objs.size], _, _, H1, rfl, I1.kept (t' := s1.toks) fun b o e => Heap.get?_push_of_some _ e, turn_list a _, ⟨_, Heap.get?_push_size _ rfl, rfl, rfl⟩, fun b hb => ?_, q⟩
    have e : b = s1.heap.objs.size := by simpa using hb
    subst e
    exact I1.fpOk (Nat.le_refl _) (I1.hok.fresh (Nat.le_refl _))
  · obtain ⟨its, rv, p, hz⟩ := I1.tuple hq
    refine wpAny_pyIter_tuple (show s1.heap.IsTuple a its.toArray from p) ?_
    refine ⟨s1.heap.objs.size, [s1.heap.objs.size], _, _, H1, rfl, I1.kept (t' := s1.toks) fun b o e => Heap.get?_push_of_some _ e, turn_tuple a _, ⟨_, Heap.get?_push_size _ rfl, rfl, rfl⟩, fun b hb => ?_, q⟩
    have e : b = s1.heap.objs.size := by simpa using hb
    subst e
    exact I1.fpOk (Nat.le_refl _) (I1.hok.fresh (Nat.le_refl _))
theorem itl_ok {k : Kx} {p : List Addr} {H : Hp} {a : Addr} {ds : List D} {gs : Gd} (h : ∀ p' M' H', p <+: p' → Le H H' → Rl k.K k.mg p' M' H' → Still gs M' → ∃ vs, Reps k.K p' H' ds vs ∧ SqL k.K H' a vs) : ItOk k p H (ds, gs) (Itl k.K a) := by
  intro n p' M' H' hp hl R S
  obtain ⟨vs, r, s⟩ := h p' M' H' hp hl R S
  refine ⟨fun d e => ?_, fun e => ⟨vs, s, by rw [e, ← reps_len r]; exact Nat.le_refl _⟩⟩
  obtain ⟨v, h1, h2⟩ := reps_get r e
  refine ⟨⟨vs, v, s, h1⟩, fun w H2 y => ?_⟩
  obtain ⟨rfl, y⟩ := y
  have e3 := y vs s
  rw [h1] at e3
  cases e3
  exact ⟨Le.refl _, R, h2⟩
theorem itt_ok {k : Kx} {p : List Addr} {H : Hp} {a : Addr} {ds : List D} {vs : List V} (r0 : Reps k.K p H ds vs) (s0 : SqT k.K H a vs) : ItOk k p H (ds, []) (Itt k.K a) := by
  intro n p' M' H' hp hl R S
  have r := Reps.up hp hl _ r0
  have s := hl.sqT s0
  refine ⟨fun d e => ?_, fun e => ⟨vs, s, by rw [e, ← reps_len r]; exact Nat.le_refl _⟩⟩
  obtain ⟨v, h1, h2⟩ := reps_get r e
  refine ⟨⟨vs, v, s, h1⟩, fun w H2 y => ?_⟩
  obtain ⟨rfl, y⟩ := y
  have e3 := y vs s
  rw [h1] at e3
  cases e3
  exact ⟨Le.refl _, R, h2⟩
/-- what stands behind a list that stands still, a frozen list, a tuple -/
theorem seq_of {k : Kx} {p : List Addr} {M : Hd} {H : Hp} {d : D} {v : V} (R : Rl k.K k.mg p M H) (q : Rep k.K p H d v) : (∀ ds, d = .tup ds → ∃ a vs, v = .ref a ∧ SqT k.K H a vs ∧ Reps k.K p H ds vs) ∧
    (∀ ds, d = .fl ds → ∃ a, v = .ref a ∧ ∀ p' M' H', p <+: p' → Le H H' → Rl k.K k.mg p' M' H' → ∃ vs, Reps k.K p' H' ds vs ∧ SqL k.K H' a vs) ∧
    (∀ i, d = .ref i → ∃ a, v = .ref a ∧ ∀ ds p' M' H', p <+: p' → Le H H' → Rl k.K k.mg p' M' H' → M'[i]? = some (.lst ds) → ∃ vs, Reps k.K p' H' ds vs ∧ SqL k.K H' a vs) := by
  refine ⟨fun ds e => ?_, fun ds e => ?_, fun i e => ?_⟩
  · subst e
    unfold Rep at q
    exact q
  · subst e
    have q0 := q
    unfold Rep at q
    obtain ⟨a, vs, rfl, s, r⟩ := q
    refine ⟨a, rfl, fun p' M' H' hp hl R' => ?_⟩
    have q' := Rep.up hp hl _ q0
    obtain ⟨a2, vs2, e2, s2, r2⟩ := rep_items (ds := ds) R' q' rfl
    unfold Rep at q'
    obtain ⟨a3, vs3, e3, s3, r3⟩ := q'
    cases e3
    refine ⟨vs3, r3, ?_⟩
    rcases s3 with ⟨o, s3⟩ | s3
    · exact .inl (.inr ⟨o, s3⟩)
    · exact s3 H'
  · subst e
    have q0 := q
    unfold Rep at q
    obtain ⟨a, ha, rfl⟩ := q
    refine ⟨a, rfl, fun ds p' M' H' hp hl R' hm => ?_⟩
    obtain ⟨b, vs, e2, _, s, r⟩ := rep_lst R' (Rep.up hp hl _ q0) hm
    cases e2
    exact ⟨vs, r, SqL.of s⟩
theorem di_seq (he : DE X z W e f) : DI_ X z W tg e (seqI f) := by
  refine (pi_sq he).imp ?_
  rintro σ H Q ⟨p, M, ρ, o, R, L, e, po⟩
  refine gE_bnd R L e po fun d M1 p1 H1 v R1 L1 hl1 hp1 q1 e1 po1 => ?_
  obtain ⟨s1, s2, s3⟩ := seq_of R1 q1
  cases d with
  | tup ds =>
    cases e1
    obtain ⟨a, vs, rfl, s, r⟩ := s1 _ rfl
    exact ⟨a, rfl, .inr ⟨⟨vs, s⟩, po1.ok R1 (itt_ok r s)⟩⟩
  | fl ds =>
    cases e1
    obtain ⟨a, rfl, s⟩ := s2 _ rfl
    obtain ⟨vs, _, s'⟩ := s p1 M1 H1 (List.prefix_refl _) (Le.refl _) R1
    exact ⟨a, rfl, .inl ⟨⟨vs, s'⟩, po1.ok R1 (itl_ok fun p' M' H' hp hl R' _ => s p' M' H' hp hl R')⟩⟩
  | ref i =>
    dsimp only at e1
    split at e1
    · rename_i ds ho
      cases e1
      obtain ⟨a, rfl, s⟩ := s3 _ rfl
      obtain ⟨vs, _, s'⟩ := s ds p1 M1 H1 (List.prefix_refl _) (Le.refl _) R1 ho
      exact ⟨a, rfl, .inl ⟨⟨vs, s'⟩, po1.ok R1 (itl_ok fun p' M' H' hp hl R' S => s ds p' M' H' hp hl R' (S (i, ds) List.mem_cons_self))⟩⟩
    · cases e1
  | _ => cases e1
theorem ints_at (lo : Int) (n i : Nat) : (intsD lo n)[i]? = if i < n then some (.int (lo + (i : Int))) else none := by
  unfold intsD
  rw [List.getElem?_map]
  by_cases h : i < n
  · rw [List.getElem?_range h, if_pos h]; rfl
  · rw [List.getElem?_eq_none (by simpa using h), if_neg h]; rfl
theorem ints_len (lo : Int) (n : Nat) : (intsD lo n).length = n := by unfold intsD; simp
theorem itr_ok {k : Kx} {p : List Addr} {H : Hp} {lo : Int} {n : Nat} : ItOk k p H (intsD lo n, []) (Itr lo n) := by
  intro i p' M' H' hp hl R S
  refine ⟨fun d e => ?_, fun e => by rw [e, ints_len]; exact Nat.le_refl _⟩
  rw [ints_at] at e
  split at e
  · rename_i hi
    cases e
    refine ⟨hi, fun v H2 y => ?_⟩
    obtain ⟨rfl, rfl⟩ := y
    exact ⟨Le.refl _, R, rep_int⟩
  · cases e
theorem di_rng1 {p' : Pos} (he : DE X z W e f) (hm : X.mg "range" = none) (hg : Gl X "range" := by rfl) (hs : starEach [e] X.env = [(false, eval e X.env)] := by rfl) : DI_ X z W tg (.Call (.Name "range" p') [e] [] pos) (rng1 f) := by
  refine (pi_range1 hg hm (pa_cons he pa_nil hs) hs).imp ?_
  rintro σ H Q ⟨p, M, ρ, o, R, L, e, po⟩
  refine gE_bnd R L e po fun d M1 p1 H1 v R1 L1 hl1 hp1 q1 e1 po1 => ?_
  cases d with
  | int n =>
    dsimp only at e1
    split at e1
    · rename_i hn
      cases e1
      unfold Rep at q1
      subst q1
      exact ⟨n, rfl, hn.1, hn.2, po1.ok R1 itr_ok⟩
    · cases e1
  | _ => cases e1
theorem di_rng2 {p' : Pos} (ha : DE X z W a fa) (hb : DE X z W b fb) (hm : X.mg "range" = none) (hg : Gl X "range" := by rfl) (hs : starEach [a, b] X.env = [(false, eval a X.env), (false, eval b X.env)] := by rfl) (hs2 : starEach [b] X.env = [(false, eval b X.env)] := by rfl) : DI_ X z W tg (.Call (.Name "range" p') [a, b] [] pos) (rng2 fa fb) := by
  refine (pi_range2 hg hm (pa_cons ha (pa_cons hb pa_nil hs2) (by rw [hs, hs2])) hs hs2).imp ?_
  rintro σ H Q ⟨p, M, ρ, o, R, L, e, po⟩
  refine gE_bnd R L e po fun d M1 p1 H1 v R1 L1 hl1 hp1 q1 e1 po1 => ?_
  refine gE_bnd R1 L1 e1 po1 fun d2 M2 p2 H2 v2 R2 L2 hl2 hp2 q2 e2 po2 => ?_
  cases d with
  | int i =>
    cases d2 with
    | int n =>
      dsimp only at e2
      split at e2
      · rename_i hn
        cases e2
        unfold Rep at q1 q2
        subst q1 q2
        exact ⟨i, n, rfl, ⟨hn.1.1, hn.1.2, hn.2.1, hn.2.2⟩, po2.ok R2 itr_ok⟩
      · cases e2
    | _ => cases e2
  | _ => cases e2

/-! ### for -/
theorem ds_for {it : IF} {tt : Tg} (hp : PassesOwn (model X.prog X.w) X.A X.env X.xe) (hc : X.calm = true) (hi : DI_ X z W tg e it) (hg : DG X z tg tt) (hb : DSs X z W sa g) (hs : ∀ x, foldedSetIterable e X.env x = pure x := by intro _; rfl) :
    DS X z W (.For tg e sa [] pos) (sFor it tt g) := by
  refine (ps_for hp hc hi hg hb hs).imp ?_
  rintro Dn σ H ⟨p, M, ρ, o, R, L, e, po⟩
  refine gE_exB R L e po fun x M1 p1 H1 J R1 L1 hl1 hp1 q1 e1 po1 => ?_
  obtain ⟨ds, gs⟩ := x
  refine ⟨fun i m σ' H' => m = ds.length - i ∧ i ≤ ds.length ∧ ∃ p' M' r', p1 <+: p' ∧ Le H1 H' ∧ Rl X.K X.mg p' M' H' ∧ Sl X.K z p' H' r' σ' ∧ forL gs tt g (ds.drop i) r' M' = some o ∧ PoS (Cx.k X z) W p' H' o Dn,
    ⟨ds.length, by simp, Nat.zero_le _, p1, M1, ρ, List.prefix_refl _, Le.refl _, R1, L1, e1, po1⟩, ?_⟩
  rintro i m σ' H' ⟨rfl, hi, p', M', r', hp', hl', R', L', e', po'⟩
  by_cases hlt : i < ds.length
  · obtain ⟨d, hd⟩ : ∃ d, ds[i]? = some d := ⟨ds[i], List.getElem?_eq_getElem hlt⟩
    have hdr : ds.drop i = d :: ds.drop (i + 1) := by
      rw [List.drop_eq_getElem_cons hlt]
      congr 1
      rw [List.getElem?_eq_getElem hlt] at hd
      exact Option.some.inj hd
    rw [hdr] at e'
    unfold forL at e'
    split at e'
    · rename_i hS
      obtain ⟨k1, k2⟩ := q1 i p' M' H' hp' hl' R' hS
      obtain ⟨go, yy⟩ := k1 d hd
      refine .inr ⟨go, fun σ2 H2 => ∃ p' M' r', p1 <+: p' ∧ Le H1 H2 ∧ Rl X.K X.mg p' M' H2 ∧ Sl X.K z p' H2 r' σ2 ∧ forL gs tt g (ds.drop (i + 1)) r' M' = some o ∧ PoS (Cx.k X z) W p' H2 o Dn,
        fun σ2 H2 h2 => ⟨ds.length - (i + 1), by omega, rfl, hlt, h2⟩, fun v H2 y => ?_⟩
      obtain ⟨hl2, R2, q2⟩ := yy v H2 y
      split at e'
      · cases e'
      · rename_i r1 hr1
        refine ⟨p', M', r', d, r1, R2, L'.up (List.prefix_refl _) hl2, q2, hr1, fun σ3 L3 _ => ?_⟩
        have po2 := po'.up (List.prefix_refl _) hl2
        cases eg : g r1 M' with
        | none => rw [eg] at e'; exact nomatch e'
        | some x =>
          refine ⟨p', M', r1, x, R2, L3, eg, ?_⟩
          rw [eg] at e'
          obtain ⟨fl, M2⟩ := x
          cases fl with
          | nx r2 => exact fun p3 H3 σ3 hp3 hl3 R3 L3 => ⟨p3, M2, r2, hp'.trans hp3, (hl'.trans hl2).trans hl3, R3, L3, e', po2.up hp3 hl3⟩
          | ct r2 => exact fun p3 H3 σ3 hp3 hl3 R3 L3 => ⟨p3, M2, r2, hp'.trans hp3, (hl'.trans hl2).trans hl3, R3, L3, e', po2.up hp3 hl3⟩
          | bk r2 => cases e'; exact po2
          | rt d => cases e'; exact po2
          | xx c r2 => cases e'; exact po2
    · cases e'
  · have hi' : i = ds.length := by omega
    subst hi'
    rw [List.drop_length] at e'
    unfold forL at e'
    split at e'
    · rename_i hS
      cases e'
      exact .inl ⟨(q1 _ p' M' H' hp' hl' R' hS).2 rfl, po'.nx R' L'⟩
    · cases e'
end

/-! ### comprehensions -/
def DTs (X : Cx) (z : Zx) (W : WX) (es : List Expr) (f : TF) : Prop := PTs X es (gE (Cx.k X z) W rB f)
section
variable {X : Cx} {z : Zx} {W : WX} {e tg elt iter : Expr} {f : EF} {t : TF} {pos : Pos} {ifs : List Expr}
theorem _root_.L2.PTs.imp {X : Cx} {e : List Expr} {t u : TT} (h : PTs X e t) (q : ∀ σ H Q, u σ H Q → t σ H Q) : PTs X e u := ⟨fun pins s σ H Q I k => h.run pins s σ H Q I (q σ H Q k)⟩
theorem dts_nil : DTs X z W [] DI.tYes := by
  refine pts_nil.imp ?_
  rintro σ H Q ⟨p, M, ρ, o, R, L, e, po⟩
  cases e
  exact po.ok R rfl
theorem dts_one (h : DT X z W e t) : DTs X z W [e] t := pts_one h
abbrev W0 : WX := fun _ _ _ _ => False
theorem no_er {K : PySem.W.Frag} {mg : Str → Option Value} {z : Zx} {α β : Type} {Re : List Addr → Hp → α → β → Prop} {p : List Addr} {H : Hp} {σ : L2.St} {d : α} {M : Hd} {Q : β → Hp → Prop} (h : ∀ p' H' v, p <+: p' → Le H H' → Rl K mg p' M H' → Re p' H' d v → Q v H') : PoE ⟨K, mg, z⟩ W0 Re p H σ (.ok d M) Q := h
theorem lc_of {k : Kx} (hz : k.z = none) {it : IF} {tt : Tg} {own : List Nat} (hown : ∀ i ∈ tt.sl, i ∈ own) {σ : L2.St} {H : Hp} {Q : VK} (q : gE k W (rD k) (eLc it tt t f own) σ H Q) :
    tLc (gE k W (ItOk k) it) (gG k tt) (gE k W0 rB t) (gE k W0 (rD k) f) own σ H Q := by
  obtain ⟨p, M, ρ, o, R, L, e, po⟩ := q
  refine gE_bnd R L e po fun x M1 p1 H1 J R1 L1 hl1 hp1 q1 e1 po1 => ?_
  obtain ⟨ds, gs⟩ := x
  intro Dl hD
  split at e1
  · rename_i M2 hM2
    cases e1
    obtain ⟨kK, kmg, kz⟩ := k
    cases hz
    have R2 : Rl kK kmg (p1 ++ [Dl]) (M1 ++ [.lst []]) (upd H1 Dl (.lst [])) := R1.new hD ⟨[], upd_same, reps_nil⟩
    have hD1 : (p1 ++ [Dl])[M1.length]? = some Dl := by rw [List.getElem?_append_right (by rw [R1.len]; omega), R1.len]; simp
    refine ⟨fun i m H' => m = ds.length - i ∧ i ≤ ds.length ∧ ∃ p' M', (p1 ++ [Dl]) <+: p' ∧ Le (upd H1 Dl (.lst [])) H' ∧ Rl kK kmg p' M' H' ∧ lcL gs M1.length tt t f (DI.wip ρ own) (ds.drop i) M' = some M2,
      ⟨ds.length, by simp, Nat.zero_le _, _, _, List.prefix_refl _, Le.refl _, R2, hM2⟩, ?_⟩
    rintro i m H' ⟨rfl, hi, p', M', hp', hl', R', e'⟩
    have hle : Le H1 H' := (Le.new hD).trans hl'
    have hpr : p1 <+: p' := (List.prefix_append p1 [Dl]).trans hp'
    have L' : Sl kK none p' H' (DI.wip ρ own) (wipe σ own) := Sl.wip (L1.up hpr hle) own
    have hat : p'[M1.length]? = some Dl := by
      obtain ⟨t, rfl⟩ := hp'
      rw [List.getElem?_append_left (List.getElem?_eq_some_iff.mp hD1).1]
      exact hD1
    by_cases hlt : i < ds.length
    · obtain ⟨d, hd⟩ : ∃ d, ds[i]? = some d := ⟨ds[i], List.getElem?_eq_getElem hlt⟩
      have hdr : ds.drop i = d :: ds.drop (i + 1) := by
        rw [List.drop_eq_getElem_cons hlt]
        congr 1
        rw [List.getElem?_eq_getElem hlt] at hd
        exact Option.some.inj hd
      rw [hdr] at e'
      unfold lcL at e'
      split at e'
      · rename_i hS
        obtain ⟨k1, k2⟩ := q1 i p' M' H' hpr hle R' hS
        obtain ⟨go, yy⟩ := k1 d hd
        refine .inr ⟨go, fun H2 => ∃ p' M', (p1 ++ [Dl]) <+: p' ∧ Le (upd H1 Dl (.lst [])) H2 ∧ Rl kK kmg p' M' H2 ∧ lcL gs M1.length tt t f (DI.wip ρ own) (ds.drop (i + 1)) M' = some M2,
          fun H2 h2 => ⟨ds.length - (i + 1), by omega, rfl, hlt, h2⟩, fun v H2 y => ?_⟩
        obtain ⟨hl2, R2, q2⟩ := yy v H2 y
        split at e'
        · cases e'
        · rename_i r1 hr1
          refine ⟨p', M', DI.wip ρ own, d, r1, R2, L'.up (List.prefix_refl _) hl2, q2, hr1, fun σ3 L3 hw => ?_⟩
          refine ⟨by rw [hw own hown, wipe_wipe], ?_⟩
          cases et : t r1 M' with
          | none => rw [et] at e'; exact nomatch e'
          | some x =>
            rw [et] at e'
            cases x with
            | er c M3 => exact nomatch e'
            | ok bb M3 =>
              refine ⟨p', M', r1, _, R2, L3, et, fun p3 H3 v3 hp3 hl3 R3 e3 => ?_⟩
              cases e3
              cases bb with
              | false => exact ⟨p3, M3, hp'.trans hp3, (hl'.trans hl2).trans hl3, R3, e'⟩
              | true =>
                rw [if_pos rfl]
                dsimp only at e'
                cases ef : f r1 M3 with
                | none => rw [ef] at e'; exact nomatch e'
                | some x4 =>
                  rw [ef] at e'
                  cases x4 with
                  | er c M4 => exact nomatch e'
                  | ok d4 M4 =>
                    refine ⟨p3, M3, r1, _, R3, L3.up hp3 hl3, ef, fun p4 H4 v4 hp4 hl4 R4 q4 => ?_⟩
                    dsimp only at e'
                    split at e'
                    · rename_i acc hacc
                      split at e'
                      · rename_i hlen
                        have hat4 : p4[M1.length]? = some Dl := by
                          obtain ⟨t, rfl⟩ := hp3.trans hp4
                          rw [List.getElem?_append_left (List.getElem?_eq_some_iff.mp hat).1]
                          exact hat
                        obtain ⟨b, hb, vs, s, r⟩ := R4.ob _ _ hacc
                        rw [hat4] at hb
                        cases hb
                        obtain ⟨R5, hl5⟩ := R4.put (u := .lst (vs ++ [v4])) (o := .lst (acc ++ [d4])) hat4 fun hl => ⟨_, upd_same, Reps.up (List.prefix_refl _) hl _ (reps_app r (reps_cons q4 reps_nil))⟩
                        exact ⟨vs, s, by rw [← reps_len r]; exact line_lt hlen, p4, _, hp'.trans (hp3.trans hp4), (((hl'.trans hl2).trans hl3).trans hl4).trans hl5, R5, e'⟩
                      · cases e'
                    · cases e'
      · cases e'
    · have hi' : i = ds.length := by omega
      subst hi'
      rw [List.drop_length] at e'
      unfold lcL at e'
      split at e'
      · rename_i hS
        have stop := (q1 _ p' M' H' hpr hle R' hS).2 rfl
        cases e'
        refine .inl ⟨stop, ?_⟩
        exact po1 p' H' _ hpr hle R' (rep_ref hat)
      · cases e'
  · cases e1
theorem de_lc {scope : Scope} {own : List (Str × Nat)} {it : IF} {tt : Tg} (hc : X.calm = true) (hN : X.N.Nodup) (hi : DI_ X none W tg iter it) (ok : BlkOk X.N X.env.scope scope own) (hown : ∀ i ∈ tt.sl, i ∈ own.map (·.2))
    (hg : ∀ (s : Shared) (H : Hp) (C : Addr) (cl : List (Str × Addr)) (fp : List Addr), DG (X.blk s H scope (compEnvC scope cl C X.env) fp) none tg tt)
    (ht : ∀ (s : Shared) (H : Hp) (C : Addr) (cl : List (Str × Addr)) (fp : List Addr), DTs (X.blk s H scope (compEnvC scope cl C X.env) fp) none W0 ifs t)
    (he : ∀ (s : Shared) (H : Hp) (C : Addr) (cl : List (Str × Addr)) (fp : List Addr), DE (X.blk s H scope (compEnvC scope cl C X.env) fp) none W0 elt f) (hs : ∀ x, foldedSetIterable iter X.env x = pure x := by intro _; rfl) :
    DE X none W (.ListComp elt [⟨tg, iter, ifs, 0⟩] scope pos) (eLc it tt t f (own.map (·.2))) :=
  (pe_lc (g := gG (Cx.k X none) tt) (tt := gE (Cx.k X none) W0 rB t) (te := gE (Cx.k X none) W0 (rD (Cx.k X none)) f) hc hN hi ok hg ht he hs).imp fun _ _ _ q => lc_of rfl hown q
/-- y = [..] on one line, y a local -/
theorem ds_setLc {i : Nat} {y : Str} {py spos : Pos} {scope : Scope} {own : List (Str × Nat)} {it : IF} {tt : Tg} (hc : X.calm = true) (hN : X.N.Nodup) (hy : X.N[i]? = some y) (hyl : X.env.scope.names.lookup y = some .local)
    (hsw : swapsWith (.ListComp elt [⟨tg, iter, ifs, 0⟩] scope pos) (some (.Name y py)) spos.line X.env = pure true) (hi : DI_ X none W tg iter it) (ok : BlkOk X.N X.env.scope scope own) (hown : ∀ i ∈ tt.sl, i ∈ own.map (·.2))
    (hg : ∀ (s : Shared) (H : Hp) (C : Addr) (cl : List (Str × Addr)) (fp : List Addr), DG (X.blk s H scope (compEnvC scope cl C X.env) fp) none tg tt)
    (ht : ∀ (s : Shared) (H : Hp) (C : Addr) (cl : List (Str × Addr)) (fp : List Addr), DTs (X.blk s H scope (compEnvC scope cl C X.env) fp) none W0 ifs t)
    (he : ∀ (s : Shared) (H : Hp) (C : Addr) (cl : List (Str × Addr)) (fp : List Addr), DE (X.blk s H scope (compEnvC scope cl C X.env) fp) none W0 elt f) (hs : ∀ x, foldedSetIterable iter X.env x = pure x := by intro _; rfl) :
    DS X none W (.Assign [.Name y py] (.ListComp elt [⟨tg, iter, ifs, 0⟩] scope pos) spos) (sAsg i (eLc it tt t f (own.map (·.2)))) := by
  refine (ps_setLc (g := gG (Cx.k X none) tt) (tt := gE (Cx.k X none) W0 rB t) (te := gE (Cx.k X none) W0 (rD (Cx.k X none)) f) hc hN hy hyl hsw hi ok hg ht he hs).imp ?_
  rintro Dn σ H ⟨p, M, ρ, o, R, L, e, po⟩
  refine lc_of (k := Cx.k X none) rfl hown ?_
  refine gE_exB R L e po fun d M1 p1 H1 v R1 L1 hl1 hp1 q1 e1 po1 => ?_
  cases e1
  exact po1.nx R1 (L1.set i q1)
end

/-! ### a def -/
theorem sl_start {K : PySem.W.Frag} {p : List Addr} {H : Hp} {N : List Str} {ds : List D} {vs : List V} (h : Reps K p H ds vs) : Sl K none p H (startD N.length ds) (L2.start N vs) := by
  have hl := reps_len h
  refine ⟨?_, fun i d e => ?_, fun a i e => nomatch e⟩
  · unfold startD L2.start
    rw [List.length_append, List.length_append, List.length_map, List.length_map, List.length_replicate, List.length_replicate, hl]
  · unfold startD at e
    by_cases hi : i < ds.length
    · rw [List.getElem?_append_left (by simpa using hi), List.getElem?_map] at e
      cases q : ds[i]? with
      | none => rw [q] at e; cases e
      | some x =>
        rw [q] at e
        cases e
        obtain ⟨v, h1, h2⟩ := reps_get h q
        refine ⟨v, ?_, h2⟩
        unfold L2.start
        rw [List.getElem?_append_left (by rw [List.length_map, ← hl]; exact hi), List.getElem?_map, h1]
        rfl
    · rw [List.getElem?_append_right (by simpa using hi), List.getElem?_replicate] at e
      split at e <;> cases e
theorem mir_len {n k : Nat} {g : SF} {ds : List D} {M : Hd} {o : Rs D} (e : mir n k g ds M = some o) : ds.length = k := by
  unfold mir at e
  split at e
  · assumption
  · cases e
theorem fn_mk {P : Program} {w : World} {K : PySem.W.Frag} {mg : Str → Option Value} {base : Heap} {x qual : Str} {params : Arguments} {body : List Stmt} {scope : Scope} {f : Addr} {fd : FuncData} {N ps : List Str} {k : Nat} {g : SF}
    (F : FunD K x qual params body scope [] [] f fd) (S : FnScope N ps scope)
    (h : ∀ (cdv : Value) (A : Around) (outer : List Env) (s : Shared) (H : Hp) (E : XK), Room k (A.deeper (envOfC qual scope s.heap.objs.size f cdv)) → DSs (cxOf (L2.CX P w) P w K mg base N qual scope f cdv A outer s H E) none (fun cls d _ H => E cls d H) body g) :
    FnOk P w K mg base (L2.CX P w) (k + 1) f fd ps (spD K mg ps.length (mir N.length ps.length g)) := by
  refine F.ok S (fun vs H Q E hsp => ?_) fun cdv A outer s H vs Q E hr hsp => ⟨_, h cdv A outer s H E hr, ?_⟩
  · obtain ⟨p, M, ds, o, R, L, hn, e, po⟩ := hsp
    rw [← reps_len L]
    exact hn
  · obtain ⟨p, M, ds, o, R, L, hn, e, po⟩ := hsp
    unfold mir at e
    rw [if_pos hn] at e
    cases eg : g (startD N.length ds) M with
    | none => rw [eg] at e; exact nomatch e
    | some x =>
      refine ⟨p, M, startD N.length ds, x, R, sl_start L, eg, ?_⟩
      rw [eg] at e
      obtain ⟨fl, M1⟩ := x
      cases fl with
      | nx r =>
        cases e
        exact fun p' H' σ' hp hl R' L' => po p' H' .non hp hl R' rep_non
      | rt d =>
        cases e
        exact fun p' H' v hp hl R' q => po p' H' v hp hl R' q
      | xx c r =>
        cases e
        exact fun p' H' σ' C hp hl R' L' hC => po p' H' C hp hl R' hC
      | bk r => exact nomatch e
      | ct r => exact nomatch e
theorem dfn_of {P : Program} {w : World} {K : PySem.W.Frag} {mg : Str → Option Value} {base : Heap} {x qual : Str} {params : Arguments} {body : List Stmt} {scope : Scope} {f : Addr} {fd : FuncData} {N ps : List Str} {k : Nat} {g : SF}
    (F : FunD K x qual params body scope [] [] f fd) (hmg : mg x = some (.ref f)) (hb : Binds K fd ps []) (h : FnOk P w K mg base (L2.CX P w) k f fd ps (spD K mg ps.length (mir N.length ps.length g))) : Dfn P w K mg base k x ps.length (mir N.length ps.length g) :=
  ⟨fun ds M o e => mir_len e, f, fd, ps, hmg, F.kp, hb, h⟩
/-- nothing leaves -/
theorem calm_of {P : Program} {w : World} {K : PySem.W.Frag} {mg : Str → Option Value} {base : Heap} {k : Nat} {f : Addr} {fd : FuncData} {ps : List Str} {sp : Sp} (h : FnOk P w K mg base (L2.CX P w) k f fd ps sp) : FnOk P w K mg base CX0 k f fd ps (fun vs H Q _ => sp vs H Q fun _ _ _ => False) := by
  refine ⟨fun vs H Q E hs => h.len vs H Q _ hs, fun A outer s H args us vs Q E hr he hb hv hs => ?_⟩
  refine codeAny_mono (h.run A outer s H args us vs Q _ hr he hb hv hs) fun r s' hq => ?_
  cases r with
  | error e =>
    obtain ⟨_, _, _, _, _, _, _, _, _, _, _, _, z⟩ := hq
    exact z.elim
  | ok fl => cases fl <;> exact hq
/-- the law's end -/
theorem sp_law {K : PySem.W.Frag} {mg : Str → Option Value} {m : List D → Hd → Option (Rs D)} {n : Nat} (h : ∀ ns : List Int, ns.length ≤ n → ∃ M, m [.fl (ns.map D.int)] [] = some (.ok (.bl true) M)) (H : Hp) (a : Addr) (ns : List Int) (hn : ns.length ≤ n) (hO : Only H) (hS : SqL K H a (ns.map V.int)) :
    spD K mg 1 m [.ref a] H (fun v _ => v = .bl true) fun _ _ _ => False := by
  obtain ⟨M, e⟩ := h ns hn
  have rr : ∀ ns : List Int, Reps K [] H (ns.map D.int) (ns.map V.int) := fun ns => by
    induction ns with
    | nil => exact reps_nil
    | cons i ns ih => exact reps_cons rep_int ih
  refine ⟨[], [], [.fl (ns.map D.int)], _, ⟨rfl, List.nodup_nil, fun i o e => by simp at e⟩, reps_cons ?_ reps_nil, rfl, e, fun p' H' v _ _ _ q => ?_⟩
  · unfold Rep
    refine ⟨a, _, rfl, ?_, rr ns⟩
    rcases hS with (hS | ⟨o, hS⟩) | hS
    · rcases hO a with z | ⟨o, xs, z⟩
      · rw [z] at hS; cases hS
      · rw [z] at hS; cases hS
    · exact .inl ⟨o, hS⟩
    · exact .inr fun H' => .inr hS
  · unfold Rep at q
    exact q
end DI

end

section
set_option Elab.async false
set_option linter.all false
set_option maxRecDepth 100000
set_option maxHeartbeats 4000000
/-! DI6: more built-ins. -/
namespace DI
open PySem PySem.Spec PyProof.Rows L2
/-- int(..) -/
def intG : D → Hd → Option (Rs D) := fun d M => match d with
  | .int i => some (.ok (.int i) M)
  | .bl b => some (.ok (.int (if b then 1 else 0)) M)
  | _ => none
section
variable {X : Cx} {z : Zx} {W : WX} {a b c e : Expr} {fa fb fc f : EF} {pos : Pos} {es : List Expr} {g : AF}
theorem de_int1 {p' : Pos} (ha : DE X z W e f) (hm : X.mg "int" = none) (hg : Gl X "int" := by rfl) (he : starEach [e] X.env = (false, eval e X.env) :: starEach [] X.env := by rfl) : DE X z W (.Call (.Name "int" p') [e] [] pos) (eUn intG f) := by
  refine (pe_callTy call_int1 hg hm PyProof.Rows.boot_int (pa_cons ha pa_nil he) (he := he)).imp ?_
  rintro σ H Q ⟨p, M, ρ, o, R, L, e, po⟩
  refine gE_bnd R L e po fun d M1 p1 H1 v R1 L1 hl1 hp1 q1 e1 po1 => ?_
  cases d with
  | int i =>
    cases e1
    unfold Rep at q1
    exact .inl ⟨i, by rw [q1], po1.ok R1 rep_int⟩
  | bl i =>
    cases e1
    unfold Rep at q1
    exact .inr ⟨i, by rw [q1], po1.ok R1 rep_int⟩
  | _ => cases e1
end
end DI
namespace DI
open PySem PySem.Spec PyProof.Rows L2
theorem look_rel {g : Str → NameKind → NameKind} {x : Str} : ∀ {l : List (Str × NameKind)}, l.lookup x = some .cell ∨ l.lookup x = some .free → (∀ n, g n .cell = .cell) → (∀ n, g n .free = .cell ∨ g n .free = .free) →
    (l.map fun p => (p.1, g p.1 p.2)).lookup x = some .cell ∨ (l.map fun p => (p.1, g p.1 p.2)).lookup x = some .free
  | [], h, _, _ => by simp at h
  | (n, k) :: l, h, h1, h2 => by
    rw [List.map_cons, List.lookup_cons]
    rw [List.lookup_cons] at h
    by_cases e : x == n
    · rw [e] at h ⊢
      dsimp only at h ⊢
      rcases h with h | h
      · cases h; rw [h1]; exact .inl rfl
      · cases h; rcases h2 n with q | q <;> rw [q] <;> simp
    · rw [Bool.not_eq_true] at e
      rw [e] at h ⊢
      exact look_rel h h1 h2
theorem blkOk_in {N : List Str} {s scope : Scope} {own : List (Str × Nat)} {cl : List (Str × Addr)} {C : Addr} {e : Env} (h : blkC N s scope own = true) : BlkOk N (compEnvC s cl C e).scope scope own := by
  let o := blkOk_by h
  refine ⟨o.kind, o.uniq, o.ix, fun y hy hf => ?_, o.own⟩
  have key := look_rel (x := y.1) (g := fun n k => if (k == NameKind.free && e.scope.kind == ScopeKind.function && e.kindOf n == some NameKind.cell) = true then NameKind.cell else k) (o.free y hy hf) (fun n => rfl) (fun n => by
    split
    · exact .inl rfl
    · exact .inr rfl)
  have eq : (compEnvC s cl C e).scope.names = s.names.map fun p => (p.1, if (p.2 == NameKind.free && e.scope.kind == ScopeKind.function && e.kindOf p.1 == some NameKind.cell) = true then NameKind.cell else p.2) := by
    unfold compEnvC relabel
    dsimp only
    apply List.map_congr_left
    rintro ⟨n, k⟩ _
    dsimp only
    split <;> rfl
  rw [eq]
  exact key
end DI

end

section
set_option Elab.async false
set_option linter.all false
set_option maxRecDepth 100000
set_option maxHeartbeats 4000000
/-! DI7: zip and enumerate of lists and tuples, mixed as they come. -/
namespace DI
open PySem PySem.Spec PyProof.Rows L2

/-- k: a tuple, else a list -/
def SqK (K : PySem.W.Frag) (k : Bool) (H : Hp) (a : Addr) (xs : List V) : Prop := match k with
  | true => SqT K H a xs
  | false => SqL K H a xs
def ItK (k : Bool) (h : Heap) (it l : Addr) (i : Nat) : Prop := match k with
  | true => h.IsTupleIter it l i
  | false => h.IsListIter it l i
def SeK (k : Bool) (h : Heap) (l : Addr) (xs : Array Value) : Prop := match k with
  | true => h.IsTuple l xs
  | false => h.IsList l xs
def itO (k : Bool) (l : Addr) : Obj := { cls := .type (match k with | true => "tuple_iterator" | false => "list_iterator"), data := .fields #[.ref l, .int 0 0] }
theorem drK {prog : Program} {w : World} {A : Around} (k : Bool) (hh : A.handled = none) {it l : Addr} (hne : l ≠ it) (xs : Array Value) :
    Draws prog w A it [it, l] xs.size (fun i v => xs[i]? = some v) (fun i h => ItK k h it l i ∧ SeK k h l xs) := by
  cases k
  · exact Draws.list hh it l hne xs
  · exact Draws.tuple hh it l hne xs
theorem begK (k : Bool) (l : Addr) (xs : Array Value) : Begins (.ref l) (itO k l) fun h => SeK k h l xs := by
  cases k
  · exact begins_list l xs
  · exact begins_tuple l xs
theorem itO_at {k : Bool} {h : Heap} {it l : Addr} (e : h.get? it = some (itO k l)) : ItK k h it l 0 := by
  cases k
  · exact ⟨_, e, rfl, rfl⟩
  · exact ⟨_, e, rfl, rfl⟩
theorem ItK.keep {k : Bool} {h h' : Heap} {it l : Addr} {i : Nat} (e : ItK k h it l i) (q : ∀ o, h.get? it = some o → h'.get? it = some o) : ItK k h' it l i := by
  cases k
  · exact Heap.IsListIter.at e q
  · exact Heap.IsTupleIter.at e q
theorem ItK.obj {k : Bool} {h : Heap} {it l : Addr} {i : Nat} (e : ItK k h it l i) : ∃ o, h.get? it = some o ∧ ∀ v, o.data ≠ .cell v := by
  cases k <;> (obtain ⟨o, a, _, d⟩ := e; exact ⟨o, a, fun v q => by rw [d] at q; cases q⟩)
section
variable {X : Cx} {pins : List (Addr × Obj)} {σ : L2.St} {H : Hp} {s : Shared}
theorem sqK {k : Bool} {a : Addr} {xs : List V} (I : Inv X pins σ H s) (h : SqK X.K k H a xs) : (∃ us : List Value, Vals xs us ∧ SeK k s.heap a us.toArray) ∧ @LT.lt Nat _ a s.heap.objs.size ∧ ∀ ys, SqK X.K k H a ys → ys = xs := by
  cases k
  · obtain ⟨us, rv, p, _⟩ := I.list h
    exact ⟨⟨us, rv, p.isList⟩, p.lt, fun ys q => I.list_inj q h⟩
  · obtain ⟨us, rv, p, _⟩ := I.tuple h
    exact ⟨⟨us, rv, p⟩, by obtain ⟨o, e, _⟩ := id p; exact Heap.lt_size e, fun ys q => I.tuple_inj q h⟩
end
theorem a_ne {a b : Nat} (h : a < b ∨ b < a) : @Ne Addr a b := fun e => by
  have e : @Eq Nat a b := e
  omega
theorem a_nm {a b c : Nat} (h : (a < b ∨ b < a) ∧ (a < c ∨ c < a)) : @Not (@Membership.mem Addr (List Addr) _ [b, c] a) := fun e => by
  rcases List.mem_cons.mp e with e | e
  · exact a_ne h.1 e
  · rw [List.mem_singleton] at e
    exact a_ne h.2 e
/-! ### zip -/
def Itz2 (K : PySem.W.Frag) (k1 k2 : Bool) (a b : Addr) : It :=
  ⟨fun i H => ∃ (xs ys : List V) (x y : V), SqK K k1 H a xs ∧ SqK K k2 H b ys ∧ xs[i]? = some x ∧ ys[i]? = some y,
    fun i H v H' => ∃ T x y, v = .ref T ∧ H T = none ∧ H' = upd H T (.tup [x, y]) ∧ (∀ xs, SqK K k1 H a xs → xs[i]? = some x) ∧ ∀ ys, SqK K k2 H b ys → ys[i]? = some y,
    fun i H => ∃ xs ys : List V, SqK K k1 H a xs ∧ SqK K k2 H b ys ∧ (xs.length = i ∧ i ≤ ys.length ∨ ys.length = i ∧ i ≤ xs.length)⟩
theorem zip_cells {z TI TO i1 i2 c : Addr} (h : c ∈ [z, TI, TO, i1, i2]) : @Eq Nat c z ∨ @Eq Nat c TI ∨ @Eq Nat c TO ∨ @Eq Nat c i1 ∨ @Eq Nat c i2 := by simpa using h
theorem not_cell {z TI TO i1 i2 c : Addr} (h : c ∉ [z, TI, TO, i1, i2]) : c ≠ z ∧ c ≠ TO ∧ c ≠ i1 ∧ c ≠ i2 :=
  ⟨fun q => h (by simp [q]), fun q => h (by simp [q]), fun q => h (by simp [q]), fun q => h (by simp [q])⟩
theorem turn_zip2 {P : Program} {w : World} {K : PySem.W.Frag} {elts : List Expr} {kk : Nat} {tpos : Pos} {k1 k2 : Bool} {a b z TI TO i1 i2 : Addr} (S : ZipSep2 z TI TO i1 i2 [i1, a] [i2, b]) (ha : a ≠ i1) (hb : b ≠ i2) :
    Turn P w K (.Tuple elts kk tpos) (Itz2 K k1 k2 a b) [z, TI, TO, i1, i2] z (fun i h => IsZip h z TI TO .none ∧ IsTupOf2 h TI (.ref i1) (.ref i2) ∧ (∃ x y, IsTupOf2 h TO x y) ∧ ItK k1 h i1 a i ∧ ItK k2 h i2 b i) where
  mem := List.mem_cons_self
  obj := by
    rintro i h ⟨hz, hTI, ⟨x, y, hTO⟩, h1, h2⟩ c hc
    rcases zip_cells hc with rfl | rfl | rfl | rfl | rfl
    · exact ⟨_, hz, fun v q => nomatch q⟩
    · exact ⟨_, hTI, fun v q => nomatch q⟩
    · exact ⟨_, hTO, fun v q => nomatch q⟩
    · exact h1.obj
    · exact h2.obj
  keep := by
    rintro i h h' ⟨hz, hTI, ⟨x, y, hTO⟩, h1, h2⟩ k
    exact ⟨k z (by simp) _ hz, k TI (by simp) _ hTI, ⟨x, y, k TO (by simp) _ hTO⟩, h1.keep (k i1 (by simp)), h2.keep (k i2 (by simp))⟩
  item := by
    rintro X rfl rfl rfl hc i pins s σ H E I hf ⟨hz, hTI, ⟨x0, y0, hTO⟩, h1, h2⟩ ⟨xs, ys, x, y, hqx, hqy, hx, hy⟩
    obtain ⟨⟨us, rv, p⟩, la, inj1⟩ := sqK I hqx
    obtain ⟨⟨us2, rv2, p2⟩, lb, inj2⟩ := sqK I hqy
    obtain ⟨u, hu, ru⟩ := rv.get hx
    obtain ⟨u2, hu2, ru2⟩ := rv2.get hy
    have hh : X.A.in1.handled = none := I.ok.hd hc
    have lz : z < s.heap.objs.size := Heap.lt_size hz
    refine wpAny_pyNext_zipD2_item S (drK k1 hh ha us.toArray) (drK k2 hh hb us2.toArray) hz hTI hTO ⟨h1, p⟩ ⟨h2, p2⟩ (List.getElem?_eq_some_iff.mp hu).1 (List.getElem?_eq_some_iff.mp hu2).1 ?_
    intro v1 v2 h' tk e1 e2 hz' hTO' st1 st2 hT hsz hk
    have e1 : u = v1 := Option.some.inj (hu.symm.trans (by simpa using e1))
    have e2 : u2 = v2 := Option.some.inj (hu2.symm.trans (by simpa using e2))
    subst e1 e2
    refine ⟨_, rfl, ?_⟩
    apply wpAny_letOwnedTupleGo_zip (s := { s with heap := h', toks := tk }) hz'
    intro h'' hz'' sb
    have hT2 : IsTupOf2 h'' s.heap.objs.size u u2 := (sb.2 _ (Nat.ne_of_gt lz)).trans hT
    have go : ∀ c o, c ∉ [z, TI, TO, i1, i2] → s.heap.get? c = some o → h''.get? c = some o := fun c o hc e => by
      obtain ⟨c1, c2, c3, c4⟩ := not_cell hc
      exact (sb.2 c c1).trans (hk c o c1 c2 c3 c4 e)
    have ok2 : ObjOk X.prog X.w (upd H s.heap.objs.size (.tup [x, y])) h'' s.heap.objs.size (.tup [x, y]) := by
      refine ⟨?_, [u, u2], .cons ru (.cons ru2 .nil), _, hT2, rfl, _, rfl⟩
      show 2 ≤ sizeLine
      decide
    have I1 := I.turnedNew (t' := tk) (ch := [z, TI, TO, i1, i2]) go hf (Nat.le_refl _) ok2
    refine ⟨.ref s.heap.objs.size, _, I1, rfl, ⟨_, x, y, rfl, I.hok.fresh (Nat.le_refl _), rfl, ?_, ?_⟩, ⟨hz'', ?_, ⟨u, u2, ?_⟩, ?_, ?_⟩, ?_⟩
    · intro zs q; rw [inj1 zs q]; exact hx
    · intro zs q; rw [inj2 zs q]; exact hy
    · exact (sb.2 _ S.TIz).trans (hk _ _ S.TIz S.TITO S.TIi1 S.TIi2 hTI)
    · exact (sb.2 _ S.TOz).trans hTO'
    · exact st1.1.keep fun o q => (sb.2 _ S.zi1.symm).trans q
    · exact st2.1.keep fun o q => (sb.2 _ S.zi2.symm).trans q
    · intro c hcm
      have : c ≠ s.heap.objs.size := by
        refine a_ne ?_
        have lt : ∀ {c o}, s.heap.get? c = some o → @LT.lt Nat _ c s.heap.objs.size := fun e => Heap.lt_size e
        have := zip_cells hcm
        obtain ⟨o1, q1, _⟩ := h1.obj
        obtain ⟨o2, q2, _⟩ := h2.obj
        have l00 := lt hz
        have l0 := lt hTI
        have l1 := lt hTO
        have l2 := lt q1
        have l3 := lt q2
        omega
      rw [upd_ne this]
      exact (hf c hcm).1
  done := by
    rintro X rfl rfl rfl hc i pins s σ H E I hf ⟨hz, hTI, ⟨x0, y0, hTO⟩, h1, h2⟩ ⟨xs, ys, hqx, hqy, hend⟩
    obtain ⟨⟨us, rv, p⟩, la, inj1⟩ := sqK I hqx
    obtain ⟨⟨us2, rv2, p2⟩, lb, inj2⟩ := sqK I hqy
    have hh : X.A.in1.handled = none := I.ok.hd hc
    have l1 : us.toArray.size = xs.length := by rw [List.size_toArray]; exact rv.length.symm
    have l2 : us2.toArray.size = ys.length := by rw [List.size_toArray]; exact rv2.length.symm
    refine wpAny_pyNext_zipD2_end S (drK k1 hh ha us.toArray) (drK k2 hh hb us2.toArray) hz hTI hTO ⟨h1, p⟩ ⟨h2, p2⟩ (by omega) (by omega) (by omega) fun h' tk hk => ⟨rfl, ?_⟩
    refine I.turnedL (t' := tk) (ch := [z, TI, TO, i1, i2]) (fun c o hc q => ?_) hf
    obtain ⟨c1, c2, c3, c4⟩ := not_cell hc
    exact hk c o c1 c2 c3 c4 q
  self := by
    rintro A i s Q E ⟨hz, _⟩ h
    exact wpAny_pyIter_zip hz h
def iZip2 (K : PySem.W.Frag) (ta : TA) : TI := fun σ H R => ta σ H fun vs H1 => ∃ a b xs ys k1 k2, vs = [.ref a, .ref b] ∧ SqK K k1 H1 a xs ∧ SqK K k2 H1 b ys ∧ R (Itz2 K k1 k2 a b) H1
theorem pi_zip2 {X : Cx} {e e2 : Expr} {ta : TA} {p pos tpos : Pos} {elts : List Expr} {kk : Nat} (hg : Gl X "zip") (hm : X.mg "zip" = none) (ha : PA X [e, e2] ta)
    (hs : starEach [e, e2] X.env = (false, eval e X.env) :: starEach [e2] X.env := by rfl) (hpl : (backTo pos (starEach [e2] X.env)).any (·.1) = false := by rfl) :
    PI X (.Tuple elts kk tpos) (.Call (.Name "zip" p) [e, e2] [] pos) (iZip2 X.K ta) := by
  refine ⟨fun pins s σ H R I h => Call_ (ld_blt I hg hm PyProof.Rows.boot_zip (PyProof.Rows.callWith_type1 (thn (ha.run pos pins s σ H _ I h) ?_) hs hpl))⟩
  rintro us s1 ⟨_, H1, I1, r1, a, b, xs, ys, k1, k2, rfl, hqx, hqy, q⟩
  obtain ⟨u, u2, rfl, r1, r2⟩ : ∃ u u2, us = [u, u2] ∧ RelV (.ref a) u ∧ RelV (.ref b) u2 := by
    cases r1 with
    | cons r rr =>
      cases rr with
      | cons r' rr =>
        cases rr
        exact ⟨_, _, rfl, r, r'⟩
  cases r1
  cases r2
  obtain ⟨⟨vs, rv, p1⟩, la, _⟩ := sqK I1 hqx
  obtain ⟨⟨vs2, rv2, p2⟩, lb, _⟩ := sqK I1 hqy
  refine zip_begins2 (begK k1 a vs.toArray) (begK k2 b vs2.toArray) p1 p2 fun h' hz hTI hTO h1 h2 hsz hk => wpAny_pyIter_zip hz ?_
  have I2 : Inv X pins σ H1 { s1 with heap := h' } := I1.kept (t' := s1.toks) hk
  have fr : ∀ c, c ∈ [s1.heap.objs.size + 4, s1.heap.objs.size + 2, s1.heap.objs.size + 3, s1.heap.objs.size, s1.heap.objs.size + 1] → FpOk X pins H1 c := fun c hc => by
    have hle : @LE.le Nat _ s1.heap.objs.size c := by
      have := zip_cells hc
      omega
    exact I1.fpOk hle (I1.hok.fresh hle)
  have S : ZipSep2 (s1.heap.objs.size + 4) (s1.heap.objs.size + 2) (s1.heap.objs.size + 3) s1.heap.objs.size (s1.heap.objs.size + 1) [s1.heap.objs.size, a] [s1.heap.objs.size + 1, b] := by
    constructor <;> first | exact List.mem_cons_self | (refine a_ne ?_; omega) | (refine a_nm ?_; omega)
  exact ⟨_, _, _, _, H1, rfl, I2, turn_zip2 S (a_ne (.inl la)) (a_ne (by omega)), ⟨hz, hTI, ⟨_, _, hTO⟩, itO_at h1, itO_at h2⟩, fr, q⟩
/-! ### enumerate -/
def Ite1 (K : PySem.W.Frag) (k : Bool) (a : Addr) : It :=
  ⟨fun i H => ∃ (xs : List V) (x : V), SqK K k H a xs ∧ xs[i]? = some x,
    fun i H v H' => ∃ T x, v = .ref T ∧ H T = none ∧ H' = upd H T (.tup [.int (i : Nat), x]) ∧ ∀ xs, SqK K k H a xs → xs[i]? = some x,
    fun i H => ∃ xs : List V, SqK K k H a xs ∧ xs.length = i⟩
theorem turn_enum1 {P : Program} {w : World} {K : PySem.W.Frag} {elts : List Expr} {kk : Nat} {tpos : Pos} {k : Bool} {a e it : Addr} (ha : a ≠ it) (he : e ≠ it) (hea : e ≠ a) :
    Turn P w K (.Tuple elts kk tpos) (Ite1 K k a) [e, it] e (fun i h => (∃ old, IsEnum h e it ((i : Nat) : Int) old) ∧ ItK k h it a i) where
  mem := List.mem_cons_self
  obj := by
    rintro i h ⟨⟨old, hE⟩, h1⟩ c hc
    have hc : c = e ∨ c = it := by simpa using hc
    rcases hc with rfl | rfl
    · exact ⟨_, hE, fun v q => nomatch q⟩
    · exact h1.obj
  keep := by
    rintro i h h' ⟨⟨old, hE⟩, h1⟩ q
    exact ⟨⟨old, q e (by simp) _ hE⟩, h1.keep (q it (by simp))⟩
  item := by
    rintro X rfl rfl rfl hc i pins s σ H E I hf ⟨⟨old, hE⟩, h1⟩ ⟨xs, x, hqx, hx⟩
    obtain ⟨⟨us, rv, p⟩, la, inj1⟩ := sqK I hqx
    obtain ⟨u, hu, ru⟩ := rv.get hx
    have hh : X.A.in1.handled = none := I.ok.hd hc
    have le : @LT.lt Nat _ e s.heap.objs.size := Heap.lt_size hE
    refine wpAny_pyNext_enum_itemD (drK k hh ha us.toArray) hE ⟨h1, p⟩ (List.getElem?_eq_some_iff.mp hu).1 he (by simp [he, hea]) ?_
    intro v1 h' tk e1 hE' st1 hT hsz hk
    have e1 : u = v1 := Option.some.inj (hu.symm.trans (by simpa using e1))
    subst e1
    refine ⟨_, rfl, ?_⟩
    apply wpAny_letOwnedTupleGo_enum (s := { s with heap := h', toks := tk + 1 }) hE'
    intro h'' hE'' sb
    have hT2 : h''.get? s.heap.objs.size = some { cls := .type "tuple", data := .seq #[.int i tk, u] } := (sb.2 _ (a_ne (.inr le))).trans hT
    have go : ∀ c o, c ∉ [e, it] → s.heap.get? c = some o → h''.get? c = some o := fun c o hc q => by
      have c1 : c ≠ e := fun z => hc (by simp [z])
      have c2 : c ≠ it := fun z => hc (by simp [z])
      exact (sb.2 c c1).trans (hk c o c1 c2 q)
    have ok2 : ObjOk X.prog X.w (upd H s.heap.objs.size (.tup [.int (i : Nat), x])) h'' s.heap.objs.size (.tup [.int (i : Nat), x]) := by
      refine ⟨?_, [.int i tk, u], .cons ⟨_, rfl⟩ (.cons ru .nil), _, hT2, rfl, _, rfl⟩
      show 2 ≤ sizeLine
      decide
    have I1 := I.turnedNew (t' := tk + 1) (ch := [e, it]) go hf (Nat.le_refl _) ok2
    refine ⟨.ref s.heap.objs.size, _, I1, rfl, ⟨_, x, rfl, I.hok.fresh (Nat.le_refl _), rfl, ?_⟩, ⟨⟨u, ?_⟩, ?_⟩, ?_⟩
    · intro zs q; rw [inj1 zs q]; exact hx
    · exact hE''
    · exact st1.1.keep fun o q => (sb.2 _ he.symm).trans q
    · intro c hcm
      have : c ≠ s.heap.objs.size := by
        refine a_ne (.inl ?_)
        have hc : c = e ∨ c = it := by simpa using hcm
        obtain ⟨o1, q1, _⟩ := h1.obj
        rcases hc with rfl | rfl
        · exact le
        · exact Heap.lt_size q1
      rw [upd_ne this]
      exact (hf c hcm).1
  done := by
    rintro X rfl rfl rfl hc i pins s σ H E I hf ⟨⟨old, hE⟩, h1⟩ ⟨xs, hqx, hend⟩
    obtain ⟨⟨us, rv, p⟩, la, inj1⟩ := sqK I hqx
    have hh : X.A.in1.handled = none := I.ok.hd hc
    have l1 : us.toArray.size = i := by rw [List.size_toArray, ← hend]; exact rv.length.symm
    subst l1
    refine wpAny_pyNext_enum_endD (drK k hh ha us.toArray) hE ⟨h1, p⟩ fun h' hk => ⟨rfl, ?_⟩
    refine I.turnedL (t' := s.toks) (ch := [e, it]) (fun c o hc q => ?_) hf
    exact hk c o (fun z => hc (by simp [z])) q
  self := by
    rintro A i s Q E ⟨⟨_, hE⟩, _⟩ h
    exact wpAny_pyIter_enum hE h
theorem meets_enum1 {v : Value} {o : Obj} {G : Heap → Prop} (B : Begins v o G) :
    Meets (Builtin.«enumerate.__new__» ⟨[.type "enumerate", v], []⟩) (fun _ R s => G s.heap ∧
      R (.ok (.ret (.ref (s.heap.push o).objs.size))) { s with heap := (s.heap.push o).push { cls := .type "enumerate", data := .fields #[.none, .bool false, .ref s.heap.objs.size, rawInt 0, .none, .none] } }) :=
  .of_wp fun prog w A R s h => by
    obtain ⟨hp, g, d, tk, os⟩ := s
    obtain ⟨b1, h⟩ := h
    have hsub := sub_enumerate
    have st : ∀ {A' : Around} {E : Value → Shared → Prop} {Q : Value → Shared → Prop}, Q (.ref hp.objs.size) ⟨hp.push o, g, d, tk, os⟩ → wpAny (model prog w) A' (pyIter v) Q E ⟨hp, g, d, tk, os⟩ := fun q => B.iter prog w _ _ _ _ b1 q
    wp_walk using st
    refine wpAny_stack_any fun stk => wpAny_pure ?_
    split
    · rename_i c _ _ _ _ _
      cases (c == Value.type "enumerate") <;> (wp_walk using st; exact ⟨_, rfl, h⟩)
    · wp_walk using st
      exact ⟨_, rfl, h⟩
theorem enum_begins1 {prog : Program} {w : World} {A : Around} {E : Value → Shared → Prop} {s : Shared} {v : Value} {o : Obj} {G : Heap → Prop} {Q : Value → Shared → Prop} (B : Begins v o G) (b1 : G s.heap)
    (h : ∀ h', IsEnum h' (s.heap.objs.size + 1) s.heap.objs.size 0 .none → h'.get? s.heap.objs.size = some o → (∀ b o, s.heap.get? b = some o → h'.get? b = some o) → Q (.ref (s.heap.objs.size + 1)) { s with heap := h' }) :
    wpAny (model prog w) A (call (.type "enumerate") [v]) Q E s := by
  refine callType_new F.called_enumerate (by decide) (F.typeCall_enumerate_1 _) (F.newCall_enumerate_1 _) (fun obj => F.args_object_init_2 obj _) F.entry_enumerate_new (meets_enum1 B) ⟨b1, ?_⟩
  have sz : (s.heap.push o).objs.size = s.heap.objs.size + 1 := Heap.size_push ..
  have hE := Heap.get?_push_size (s.heap.push o) (o := { cls := .type "enumerate", data := .fields #[.none, .bool false, .ref s.heap.objs.size, rawInt 0, .none, .none] }) rfl
  show _ ∧ _
  rw [sz] at hE ⊢
  exact ⟨⟨_, hE, rfl⟩, h _ hE (Heap.get?_push_of_some _ (Heap.get?_push_size _ B.free)) fun b o x => Heap.get?_push_of_some _ (Heap.get?_push_of_some _ x)⟩
def iEnum1 (K : PySem.W.Frag) (ta : TA) : TI := fun σ H R => ta σ H fun vs H1 => ∃ a xs k, vs = [.ref a] ∧ SqK K k H1 a xs ∧ R (Ite1 K k a) H1
theorem pi_enum1 {X : Cx} {e : Expr} {ta : TA} {p pos tpos : Pos} {elts : List Expr} {kk : Nat} (hg : Gl X "enumerate") (hm : X.mg "enumerate" = none) (ha : PA X [e] ta) (hs : starEach [e] X.env = [(false, eval e X.env)] := by rfl) :
    PI X (.Tuple elts kk tpos) (.Call (.Name "enumerate" p) [e] [] pos) (iEnum1 X.K ta) := by
  refine ⟨fun pins s σ H R I h => Call_ (ld_blt I hg hm boot_enumerate (PyProof.Rows.callWith_type1 (thn (ha.run pos pins s σ H _ I h) ?_) hs rfl))⟩
  rintro us s1 ⟨_, H1, I1, r1, a, xs, k, rfl, hqx, q⟩
  obtain ⟨u, rfl, ru⟩ : ∃ u, us = [u] ∧ RelV (.ref a) u := by
    cases r1 with
    | cons r rr =>
      cases rr
      exact ⟨_, rfl, r⟩
  cases ru
  obtain ⟨⟨vs, rv, p1⟩, la, _⟩ := sqK I1 hqx
  refine enum_begins1 (begK k a vs.toArray) p1 fun h' hE h1 hk => wpAny_pyIter_enum hE ?_
  have I2 : Inv X pins σ H1 { s1 with heap := h' } := I1.kept (t' := s1.toks) hk
  have fr : ∀ c, c ∈ [s1.heap.objs.size + 1, s1.heap.objs.size] → FpOk X pins H1 c := fun c hc => by
    have hle : @LE.le Nat _ s1.heap.objs.size c := by
      have : @Eq Nat c (s1.heap.objs.size + 1) ∨ @Eq Nat c s1.heap.objs.size := by simpa using hc
      omega
    exact I1.fpOk hle (I1.hok.fresh hle)
  exact ⟨_, _, _, _, H1, rfl, I2, turn_enum1 (a_ne (.inl la)) (a_ne (by omega)) (a_ne (by omega)), ⟨⟨.none, hE⟩, itO_at h1⟩, fr, q⟩
/-! ### of data -/
def sqD (d : D) (M : Hd) : Option (List D × Gd) := match d with
  | .tup ds => some (ds, [])
  | .fl ds => some (ds, [])
  | .ref i => (match M[i]? with
    | some (.lst ds) => some (ds, [(i, ds)])
    | _ => none)
  | _ => none
def pairsD (xs ys : List D) : List D := List.zipWith (fun x y => D.tup [x, y]) xs ys
def numbD (xs : List D) : List D := xs.zipIdx.map fun p => D.tup [.int ((p.2 : Nat) : Int), p.1]
def zip2I (fa fb : EF) : IF := fun r M => bnd (fa r M) fun x M1 => bnd (fb r M1) fun y M2 => match sqD x M2, sqD y M2 with
  | some (xs, g), some (ys, h) => some (.ok (pairsD xs ys, g ++ h) M2)
  | _, _ => none
def enumI (f : EF) : IF := fun r M => bnd (f r M) fun x M1 => match sqD x M1 with
  | some (xs, g) => some (.ok (numbD xs, g) M1)
  | _ => none
theorem still_app {g h : Gd} {M : Hd} : Still (g ++ h) M ↔ Still g M ∧ Still h M := by
  unfold Still
  rw [List.forall_mem_append]
theorem sq_of {k : Kx} {p : List Addr} {M : Hd} {H : Hp} {d : D} {v : V} {ds : List D} {g : Gd} (R : Rl k.K k.mg p M H) (q : Rep k.K p H d v) (e : sqD d M = some (ds, g)) :
    ∃ a b, v = .ref a ∧ Still g M ∧ ∀ p' M' H', p <+: p' → Le H H' → Rl k.K k.mg p' M' H' → Still g M' → ∃ vs, Reps k.K p' H' ds vs ∧ SqK k.K b H' a vs := by
  obtain ⟨s1, s2, s3⟩ := seq_of R q
  cases d with
  | tup es =>
    cases e
    obtain ⟨a, vs, rfl, s, r⟩ := s1 _ rfl
    exact ⟨a, true, rfl, (by simp), fun p' M' H' hp hl R' _ => ⟨vs, Reps.up hp hl _ r, hl.sqT s⟩⟩
  | fl es =>
    cases e
    obtain ⟨a, rfl, s⟩ := s2 _ rfl
    exact ⟨a, false, rfl, (by simp), fun p' M' H' hp hl R' _ => s p' M' H' hp hl R'⟩
  | ref i =>
    unfold sqD at e
    dsimp only at e
    split at e
    · rename_i es ho
      cases e
      obtain ⟨a, rfl, s⟩ := s3 _ rfl
      refine ⟨a, false, rfl, (by simpa using ho), fun p' M' H' hp hl R' S => s ds p' M' H' hp hl R' ?_⟩
      simpa using S
    · cases e
  | _ => cases e
section
variable {X : Cx} {z : Zx} {W : WX} {a b e : Expr} {fa fb f : EF} {pos : Pos}
theorem di_zip {p' tpos : Pos} {elts : List Expr} {kk : Nat} (ha : DE X z W a fa) (hb : DE X z W b fb) (hm : X.mg "zip" = none) (hg : Gl X "zip" := by rfl) (hs : starEach [a, b] X.env = (false, eval a X.env) :: starEach [b] X.env := by rfl) (hs2 : starEach [b] X.env = (false, eval b X.env) :: starEach [] X.env := by rfl)
    (hpl : (backTo pos (starEach [b] X.env)).any (·.1) = false := by rfl) : DI_ X z W (.Tuple elts kk tpos) (.Call (.Name "zip" p') [a, b] [] pos) (zip2I fa fb) := by
  refine (pi_zip2 hg hm (pa_cons ha (pa_cons hb pa_nil hs2) hs) hs hpl).imp ?_
  rintro σ H Q ⟨p, M, ρ, o, R, L, e, po⟩
  refine gE_bnd R L e po fun d M1 p1 H1 v R1 L1 hl1 hp1 q1 e1 po1 => ?_
  refine gE_bnd R1 L1 e1 po1 fun d2 M2 p2 H2 v2 R2 L2 hl2 hp2 q2 e2 po2 => ?_
  split at e2
  · rename_i xs g ys h hx hy
    cases e2
    obtain ⟨a1, b1, rfl, s1, k1⟩ := sq_of R2 (Rep.up hp2 hl2 _ q1) hx
    obtain ⟨a2, b2, rfl, s2, k2⟩ := sq_of R2 q2 hy
    obtain ⟨vs1, _, t1⟩ := k1 p2 M2 H2 (List.prefix_refl _) (Le.refl _) R2 s1
    obtain ⟨vs2, _, t2⟩ := k2 p2 M2 H2 (List.prefix_refl _) (Le.refl _) R2 s2
    refine ⟨a1, a2, vs1, vs2, b1, b2, rfl, t1, t2, po2.ok R2 ?_⟩
    intro n p' M' H' hp hl R' S
    obtain ⟨S1, S2⟩ := still_app.mp S
    obtain ⟨ws1, r1, u1⟩ := k1 p' M' H' hp hl R' S1
    obtain ⟨ws2, r2, u2⟩ := k2 p' M' H' hp hl R' S2
    have l1 := reps_len r1
    have l2 := reps_len r2
    refine ⟨fun d hd => ?_, fun hn => ?_⟩
    · have hd : (pairsD xs ys)[n]? = some d := hd
      unfold pairsD at hd
      rw [List.getElem?_zipWith_eq_some] at hd
      obtain ⟨x, y, hx1, hy1, rfl⟩ := hd
      obtain ⟨x', e1, e2⟩ := reps_get r1 hx1
      obtain ⟨y', e3, e4⟩ := reps_get r2 hy1
      refine ⟨⟨ws1, ws2, x', y', u1, u2, e1, e3⟩, ?_⟩
      rintro v H'' ⟨T, x2, y2, rfl, hT, rfl, g1, g2⟩
      have := g1 ws1 u1
      rw [e1] at this
      cases this
      have := g2 ws2 u2
      rw [e3] at this
      cases this
      refine ⟨Le.new hT, R'.other hT, rep_tup (SqT.of upd_same) (Reps.up (List.prefix_refl _) (Le.new hT) _ (reps_cons e2 (reps_cons e4 reps_nil)))⟩
    · have hn : n = (pairsD xs ys).length := hn
      unfold pairsD at hn
      rw [List.length_zipWith] at hn
      exact ⟨ws1, ws2, u1, u2, by omega⟩
  · cases e2
theorem di_enum {p' tpos : Pos} {elts : List Expr} {kk : Nat} (he : DE X z W e f) (hm : X.mg "enumerate" = none) (hg : Gl X "enumerate" := by rfl) (hs : starEach [e] X.env = [(false, eval e X.env)] := by rfl) : DI_ X z W (.Tuple elts kk tpos) (.Call (.Name "enumerate" p') [e] [] pos) (enumI f) := by
  refine (pi_enum1 hg hm (pa_cons he pa_nil hs) hs).imp ?_
  rintro σ H Q ⟨p, M, ρ, o, R, L, e, po⟩
  refine gE_bnd R L e po fun d M1 p1 H1 v R1 L1 hl1 hp1 q1 e1 po1 => ?_
  split at e1
  · rename_i xs g hx
    cases e1
    obtain ⟨a1, b1, rfl, s1, k1⟩ := sq_of R1 q1 hx
    obtain ⟨vs1, _, t1⟩ := k1 p1 M1 H1 (List.prefix_refl _) (Le.refl _) R1 s1
    refine ⟨a1, vs1, b1, rfl, t1, po1.ok R1 ?_⟩
    intro n p' M' H' hp hl R' S
    obtain ⟨ws1, r1, u1⟩ := k1 p' M' H' hp hl R' S
    have l1 := reps_len r1
    refine ⟨fun d hd => ?_, fun hn => ?_⟩
    · have hd : (numbD xs)[n]? = some d := hd
      unfold numbD at hd
      rw [List.getElem?_map, List.getElem?_zipIdx, Option.map_map] at hd
      cases hx1 : xs[n]? with
      | none => rw [hx1] at hd; cases hd
      | some x =>
        rw [hx1] at hd
        cases hd
        obtain ⟨x', e1, e2⟩ := reps_get r1 hx1
        refine ⟨⟨ws1, x', u1, e1⟩, ?_⟩
        rintro v H'' ⟨T, x2, rfl, hT, rfl, g1⟩
        have := g1 ws1 u1
        rw [e1] at this
        cases this
        refine ⟨Le.new hT, R'.other hT, rep_tup (SqT.of upd_same) (Reps.up (List.prefix_refl _) (Le.new hT) _ (reps_cons ?_ (reps_cons e2 reps_nil)))⟩
        rw [Nat.zero_add]
        exact rep_int
    · have hn : n = (numbD xs).length := hn
      unfold numbD at hn
      rw [List.length_map, List.length_zipIdx] at hn
      exact ⟨ws1, u1, by omega⟩
  · cases e1
end
end DI

end

section
set_option Elab.async false
set_option linter.all false
set_option maxRecDepth 100000
set_option maxHeartbeats 4000000
/-! DI8: statements that are never reached; all, any, max; defs that call themselves. -/
namespace DI
open PySem PySem.Spec PyProof.Rows L2

/-- a statement of which nothing is told -/
def sNever : SF := fun _ _ => none
theorem gS_no {X : Cx} {z : Zx} {W : WX} {st : Stmt} : DS X z W st sNever := by
  refine ⟨fun pins s σ H Q I h => ?_⟩
  obtain ⟨p, M, r, o, R, L, e, _⟩ := h
  exact nomatch e
/-- a def of which nothing is told yet -/
theorem Dfn.none {P : Program} {w : World} {K : PySem.W.Frag} {mg : Str → Option Value} {base : Heap} {k : Nat} {x : Str} {n : Nat} {f : Addr} {fd : FuncData} {ps : List Str} (hmg : mg x = some (.ref f)) (kp : PySem.W.keepIn K (.ref f) = true) (hb : Binds K fd ps []) :
    Dfn P w K mg base k x n (fun _ _ => Option.none) := by
  refine ⟨fun ds M o e => (nomatch e), f, fd, ps, hmg, kp, hb, ⟨fun vs H Q E h => ?_, fun A outer s H args us vs Q E _ _ _ _ h => ?_⟩⟩
  · obtain ⟨p, M, ds, o, R, L, hn, e, _⟩ := h
    exact nomatch e
  · obtain ⟨p, M, ds, o, R, L, hn, e, _⟩ := h
    exact nomatch e

/-! ### max of ints -/
theorem wkK {prog : Program} {w : World} {A : Around} (k : Bool) (hh : A.handled = Option.none) {I ax : Addr} (hne : ax ≠ I) (xs : Array Value) :
    Walks prog w A I [I, ax] [I] xs.size (fun i v => xs[i]? = some v) (fun i h => ItK k h I ax i ∧ SeK k h ax xs) := by
  cases k
  · exact Walks.list hh I ax hne xs
  · exact Walks.tuple hh I ax hne xs
def maxI : List Int → Int
  | [] => 0
  | x :: xs => xs.foldl max x
theorem foldl_max : ∀ (xs : List Int) (x : Int), (xs.foldl max x = x ∨ xs.foldl max x ∈ xs) ∧ x ≤ xs.foldl max x ∧ ∀ y ∈ xs, y ≤ xs.foldl max x
  | [], x => ⟨.inl rfl, Int.le_refl _, fun _ h => nomatch h⟩
  | a :: xs, x => by
    obtain ⟨h1, h2, h3⟩ := foldl_max xs (max x a)
    rw [List.foldl_cons]
    refine ⟨?_, by omega, fun y hy => ?_⟩
    · rcases h1 with h | h
      · rw [h]
        by_cases q : x ≤ a
        · rw [Int.max_eq_right q]; exact .inr List.mem_cons_self
        · rw [Int.max_eq_left (by omega)]; exact .inl rfl
      · exact .inr (List.mem_cons_of_mem _ h)
    · rcases List.mem_cons.mp hy with rfl | hy
      · omega
      · exact h3 y hy
theorem maxI_mem {xs : List Int} (h : xs ≠ []) : maxI xs ∈ xs := by
  cases xs with
  | nil => exact (h rfl).elim
  | cons x xs =>
    rcases (foldl_max xs x).1 with q | q
    · show xs.foldl max x ∈ _
      rw [q]
      exact List.mem_cons_self
    · exact List.mem_cons_of_mem _ q
theorem maxI_le {xs : List Int} {y : Int} (h : y ∈ xs) : y ≤ maxI xs := by
  cases xs with
  | nil => exact nomatch h
  | cons x xs =>
    rcases List.mem_cons.mp h with rfl | h
    · exact (foldl_max xs y).2.1
    · exact (foldl_max xs x).2.2 y h
theorem best_le (val : Nat → Int) : ∀ k, argBest (fun i j => decide (val i > val j)) k ≤ k ∧ ∀ i, i ≤ k → val i ≤ val (argBest (fun i j => decide (val i > val j)) k)
  | 0 => ⟨Nat.le_refl _, fun i hi => by rw [Nat.le_zero.mp hi]; exact Int.le_refl _⟩
  | k + 1 => by
    obtain ⟨h1, h2⟩ := best_le val k
    unfold argBest
    by_cases q : val (k + 1) > val (argBest (fun i j => decide (val i > val j)) k)
    · rw [if_pos (by simpa using q)]
      refine ⟨Nat.le_refl _, fun i hi => ?_⟩
      rcases Nat.lt_or_eq_of_le hi with h | rfl
      · have := h2 i (by omega); omega
      · exact Int.le_refl _
    · rw [if_neg (by simpa using q)]
      refine ⟨by omega, fun i hi => ?_⟩
      rcases Nat.lt_or_eq_of_le hi with h | rfl
      · exact h2 i (by omega)
      · omega
def rMax1 (K : PySem.W.Frag) : List V → Hp → VK → Prop := fun vs H Q => ∃ (k : Bool) (a : Addr) (ns : List Int), vs = [.ref a] ∧ SqK K k H a (ns.map V.int) ∧ ns ≠ [] ∧ Q (.int (maxI ns)) H
theorem cr_max1 {X : Cx} (hc : X.calm = true) : CallR X (.builtin "max") (rMax1 X.K) := by
  intro pins s σ H vs us Q I r h
  obtain ⟨k, a, ns, rfl, hs, hne, q⟩ := h
  obtain ⟨⟨its, rv, p⟩, la, _⟩ := sqK I hs
  rw [Vals.ref1 r]
  have hl : its.length = ns.length := by rw [← rv.length, List.length_map]
  have hpos : 0 < ns.length := List.length_pos_iff.mpr hne
  refine call_max_walk ((begK k a its.toArray).iter _ _ _ _ _ _ p ?_)
  have hI : ItK k (s.heap.push (itO k a)) s.heap.objs.size a 0 := itO_at (Heap.get?_push_size _ (begK k a its.toArray).free)
  have hS : SeK k (s.heap.push (itO k a)) a its.toArray := (begK k a its.toArray).keeps _ _ p fun b o e => Heap.get?_push_of_some _ e
  have val : ∀ i v, its.toArray[i]? = some v → ∃ t, v = Value.int (ns.getD i 0) t := fun i v e => by
    have e' : its[i]? = some v := by simpa using e
    have hi : i < ns.length := by rw [← hl]; exact (List.getElem?_eq_some_iff.mp e').1
    obtain ⟨u, hu, ru⟩ := rv.get (i := i) (x := .int ns[i]) (by rw [List.getElem?_map, List.getElem?_eq_getElem hi]; rfl)
    rw [e'] at hu
    cases hu
    obtain ⟨t, rfl⟩ := ru
    exact ⟨t, by rw [List.getD_eq_getElem?_getD, List.getElem?_eq_getElem hi]; rfl⟩
  refine ⟨s.heap.objs.size, _, _, _, _, _, _, rfl, wkK (A := X.A.in1) k (I.ok.hd hc) (a_ne (.inl la)) its.toArray, ⟨hI, hS⟩, ?_, by rw [List.size_toArray, hl]; exact hpos, CmpOf.ints_gt (fun i => ns.getD i 0) val, fun v h' tk hP hk => ?_⟩
  · intro b hb
    show @LT.lt Nat _ b (s.heap.push _).objs.size
    rw [Heap.size_push]
    have : @Eq Nat b s.heap.objs.size ∨ @Eq Nat b a := by simpa using hb
    omega
  · obtain ⟨t, rfl⟩ := val _ _ hP
    refine ⟨.int _, H, I.kept fun b o eo => hk b o (fun hm => ?_) (Heap.get?_push_of_some _ eo), ⟨t, rfl⟩, ?_⟩
    · rw [List.mem_singleton] at hm
      exact a_ne (.inl (Heap.lt_size eo)) hm
    · obtain ⟨b1, b2⟩ := best_le (fun i => ns.getD i 0) (its.toArray.size - 1)
      have hsz : its.toArray.size - 1 = ns.length - 1 := by rw [List.size_toArray, hl]
      rw [hsz] at b1 b2 ⊢
      generalize hj : argBest (fun i j => decide (ns.getD i 0 > ns.getD j 0)) (ns.length - 1) = j at b1 b2
      have hjl : j < ns.length := by omega
      have e1 : ns.getD j 0 = ns[j] := by rw [List.getD_eq_getElem?_getD, List.getElem?_eq_getElem hjl]; rfl
      have le1 : ns.getD j 0 ≤ maxI ns := by rw [e1]; exact maxI_le (List.getElem_mem hjl)
      have le2 : maxI ns ≤ ns.getD j 0 := by
        obtain ⟨i, hi, e⟩ := List.mem_iff_getElem.mp (maxI_mem hne)
        have := b2 i (by omega)
        rw [List.getD_eq_getElem?_getD, List.getElem?_eq_getElem hi] at this
        rw [← e]
        exact this
      rw [Int.le_antisymm le1 le2]
      exact q
def intOf : D → Option Int
  | .int i => some i
  | _ => Option.none
def blOf : D → Option Bool
  | .bl i => some i
  | _ => Option.none
def max1G : D → Hd → Option (Rs D) := fun d M => match sqD d M with
  | some (ds, _) => (match ds.mapM intOf with
    | some (n :: ns) => some (.ok (.int (maxI (n :: ns))) M)
    | _ => Option.none)
  | _ => Option.none
def allG : D → Hd → Option (Rs D) := fun d M => match d with
  | .ref i => (match M[i]? with
    | some (.lst ds) => (match ds.mapM blOf with
      | some bs => some (.ok (.bl (bs.all id)) M)
      | _ => Option.none)
    | _ => Option.none)
  | _ => Option.none
def anyG : D → Hd → Option (Rs D) := fun d M => match d with
  | .ref i => (match M[i]? with
    | some (.lst ds) => (match ds.mapM blOf with
      | some bs => some (.ok (.bl (bs.any id)) M)
      | _ => Option.none)
    | _ => Option.none)
  | _ => Option.none
theorem reps_ints {K : PySem.W.Frag} {p : List Addr} {H : Hp} : ∀ {ds : List D} {vs : List V} {ns : List Int}, Reps K p H ds vs → ds.mapM intOf = some ns → vs = ns.map V.int
  | [], _, ns, h, e => by
    unfold Reps at h
    subst h
    simp at e
    subst e
    rfl
  | d :: ds, _, ns, h, e => by
    unfold Reps at h
    obtain ⟨v, ws, rfl, r, q⟩ := h
    rw [List.mapM_cons] at e
    cases d with
    | int i =>
      cases e2 : ds.mapM intOf with
      | none => rw [e2] at e; exact nomatch e
      | some xs =>
        rw [e2] at e
        cases e
        unfold Rep at r
        rw [r, reps_ints q e2]
        rfl
    | _ => exact nomatch e
theorem reps_bls {K : PySem.W.Frag} {p : List Addr} {H : Hp} : ∀ {ds : List D} {vs : List V} {ns : List Bool}, Reps K p H ds vs → ds.mapM blOf = some ns → vs = ns.map V.bl
  | [], _, ns, h, e => by
    unfold Reps at h
    subst h
    simp at e
    subst e
    rfl
  | d :: ds, _, ns, h, e => by
    unfold Reps at h
    obtain ⟨v, ws, rfl, r, q⟩ := h
    rw [List.mapM_cons] at e
    cases d with
    | bl i =>
      cases e2 : ds.mapM blOf with
      | none => rw [e2] at e; exact nomatch e
      | some xs =>
        rw [e2] at e
        cases e
        unfold Rep at r
        rw [r, reps_bls q e2]
        rfl
    | _ => exact nomatch e
section
variable {X : Cx} {z : Zx} {W : WX} {e : Expr} {f : EF} {pos : Pos}
theorem de_max1 {p' : Pos} (hc : X.calm = true) (ha : DE X z W e f) (hm : X.mg "max" = Option.none) (hg : Gl X "max" := by rfl) (he : starEach [e] X.env = (false, eval e X.env) :: starEach [] X.env := by rfl) : DE X z W (.Call (.Name "max" p') [e] [] pos) (eUn max1G f) := by
  refine (pe_callB (cr_max1 hc) hg hm PyProof.Rows.boot_max (pa_cons ha pa_nil he) (he := he)).imp ?_
  rintro σ H Q ⟨p, M, ρ, o, R, L, e, po⟩
  refine gE_bnd R L e po fun d M1 p1 H1 v R1 L1 hl1 hp1 q1 e1 po1 => ?_
  unfold max1G at e1
  split at e1
  · rename_i ds g hd
    split at e1
    · rename_i n ns hn
      cases e1
      obtain ⟨a, b, rfl, s1, k1⟩ := sq_of R1 q1 hd
      obtain ⟨vs, r, s⟩ := k1 p1 M1 H1 (List.prefix_refl _) (Le.refl _) R1 s1
      have := reps_ints r hn
      subst this
      exact ⟨b, a, n :: ns, rfl, s, (fun q => nomatch q), po1.ok R1 rep_int⟩
    · cases e1
  · cases e1
theorem de_all {p' : Pos} (hc : X.calm = true) (ha : DE X z W e f) (hm : X.mg "all" = Option.none) (hg : Gl X "all" := by rfl) (he : starEach [e] X.env = (false, eval e X.env) :: starEach [] X.env := by rfl) : DE X z W (.Call (.Name "all" p') [e] [] pos) (eUn allG f) := by
  refine (pe_callB (cr_all hc) hg hm PyProof.Rows.boot_all (pa_cons ha pa_nil he) (he := he)).imp ?_
  rintro σ H Q ⟨p, M, ρ, o, R, L, e, po⟩
  refine gE_bnd R L e po fun d M1 p1 H1 v R1 L1 hl1 hp1 q1 e1 po1 => ?_
  cases d with
  | ref i =>
    unfold allG at e1
    dsimp only at e1
    split at e1
    · rename_i ds ho
      split at e1
      · rename_i bs hb
        cases e1
        obtain ⟨a, vs, rfl, _, s, r⟩ := rep_lst R1 q1 ho
        have := reps_bls r hb
        subst this
        exact ⟨a, bs, rfl, SqL.of s, po1.ok R1 rep_bl⟩
      · cases e1
    · cases e1
  | _ => cases e1
theorem de_any {p' : Pos} (hc : X.calm = true) (ha : DE X z W e f) (hm : X.mg "any" = Option.none) (hg : Gl X "any" := by rfl) (he : starEach [e] X.env = (false, eval e X.env) :: starEach [] X.env := by rfl) : DE X z W (.Call (.Name "any" p') [e] [] pos) (eUn anyG f) := by
  refine (pe_callB (cr_any hc) hg hm PyProof.Rows.boot_any (pa_cons ha pa_nil he) (he := he)).imp ?_
  rintro σ H Q ⟨p, M, ρ, o, R, L, e, po⟩
  refine gE_bnd R L e po fun d M1 p1 H1 v R1 L1 hl1 hp1 q1 e1 po1 => ?_
  cases d with
  | ref i =>
    unfold anyG at e1
    dsimp only at e1
    split at e1
    · rename_i ds ho
      split at e1
      · rename_i bs hb
        cases e1
        obtain ⟨a, vs, rfl, _, s, r⟩ := rep_lst R1 q1 ho
        have := reps_bls r hb
        subst this
        exact ⟨a, bs, rfl, SqL.of s, po1.ok R1 rep_bl⟩
      · cases e1
    · cases e1
  | _ => cases e1
end
end DI

end

section
set_option Elab.async false
set_option linter.all false
set_option maxRecDepth 100000
set_option maxHeartbeats 4000000
/-! DI9: exceptions of own classes, raised and caught. -/
namespace DI
open PySem PySem.Spec PyProof.Rows L2

/-- the head's facts and one test more -/
def hookQ (n : Nat) (fa : List He.Fa) (fn : List He.DefD) (ex : PySem.W.Frag → Bool) : PySem.W.Hook where
  α := He.AlD × Bool
  obs := fun s => (He.obsD fa fn (He.frG s.heap.get? (He.asD s.heap.get? n)), ex (He.frG s.heap.get? (He.asD s.heap.get? n)))
  val := fun _ => (He.valD fn, true)
  says := fun _ h => ∃ K : PySem.W.Frag, K.In h ∧ He.SaysD fa fn K ∧ ex K = true
  of := fun _ _ e => ⟨_, He.frG_in, congrArg Prod.fst e, congrArg Prod.snd e⟩
  keeps := fun _ _ _ ⟨K, hK, c⟩ k => ⟨K, PySem.W.Frag.In.keeps hK k, c⟩
def obQ (n : Nat) (fa : List He.Fa) (fn : List He.DefD) (ex : PySem.W.Frag → Bool) (g : Addr → Option Obj) : He.AlD × Bool := (He.obsD fa fn (He.frG g (He.asD g n)), ex (He.frG g (He.asD g n)))
theorem obQ_eq {n : Nat} {fa : List He.Fa} {fn : List He.DefD} {ex : PySem.W.Frag → Bool} {g : Addr → Option Obj} {s : Shared} (h : ∀ a, g a = s.heap.get? a) : obQ n fa fn ex g = (hookQ n fa fn ex).obs s := by
  have e : g = s.heap.get? := funext h
  rw [e]
  rfl

/-- an own class of exceptions over ValueError, without own methods -/
structure XCl (K : PySem.W.Frag) (mg : Str → Option Value) (c : Str) : Prop where
  ex : ∃ C, mg c = some (.ref C) ∧ PySem.W.excIn K C He.veBase "ValueError.__new__" = true ∧ PySem.W.keepIn K (.ref C) = true ∧ PySem.W.subIn K (.ref C) (.type "BaseException") = some true ∧ PySem.W.typeIn K (.ref C) = some (.type "type")
section
variable {X : Cx} {W : WX}
theorem ds_raise {c m : Str} {j : Nat} {p p2 pos pos' : Pos} {z : Zx} (hc : X.calm = true) (tk : Takes X W) (F : XCl X.K X.mg c) (hg : Gl X c := by rfl) (hdb : (c == ("__debug__" : Str)) = false := by decide) :
    DS X z W (.Raise (some (.Call (.Name c p) [.Constant (.str m) j p2] [] pos)) none pos') (sRaise c) := by
  obtain ⟨C, g1, g2, g3, g4, g5⟩ := F.ex
  refine (ps_raise hc tk (pmk_own PySem.F.excBase_ValueError g2 g1 g3 (raises_own g4 g5) hg hdb)).imp ?_
  rintro Dn σ H ⟨q, M, r, o, R, L, e, po⟩
  cases e
  exact po q H σ C (List.prefix_refl q) (Le.refl H) R L g1
end
/-! ### try -/
def clr (i : Nat) (r : Ev) : Ev := r.set i none
/-- try: body except C as x (slot i): suite; sub: whether a class is under C -/
def sTryAs (sub : Str → Option Bool) (i : Nat) (body : SF) (suite : Str → SF) : SF := fun r M => match body r M with
  | some (.xx c r1, M1) => (match sub c with
    | some true => (match suite c (clr i r1) M1 with
      | some (.nx r2, M2) => some (.nx (clr i r2), M2)
      | some (.bk r2, M2) => some (.bk (clr i r2), M2)
      | some (.ct r2, M2) => some (.ct (clr i r2), M2)
      | some (.rt d, M2) => some (.rt d, M2)
      | _ => none)
    | some false => some (.xx c r1, M1)
    | none => none)
  | o => o
/-- .. without a name -/
def sTry (sub : Str → Option Bool) (body : SF) (suite : Str → SF) : SF := fun r M => match body r M with
  | some (.xx c r1, M1) => (match sub c with
    | some true => (match suite c r1 M1 with
      | some (.xx _ _, _) => none
      | o => o)
    | some false => some (.xx c r1, M1)
    | none => none)
  | o => o
theorem Sl.hold {K : PySem.W.Frag} {p : List Addr} {H : Hp} {r : Ev} {σ : L2.St} (s : Sl K none p H r σ) (i : Nat) (a : Addr) : Sl K (some (a, i)) p H (clr i r) (σ.set i (some (.ref a))) := by
  refine ⟨by unfold clr; rw [List.length_set, List.length_set]; exact s.len, fun j d e => ?_, fun b k hz e => ?_⟩
  · unfold clr at e
    by_cases hj : i = j
    · subst hj
      have hi : i < r.length := by
        have := (List.getElem?_eq_some_iff.mp e).1
        rwa [List.length_set] at this
      rw [List.getElem?_set_self hi] at e
      cases e
    · rw [List.getElem?_set_ne hj] at e ⊢
      exact s.at_ j d e
  · cases hz
    have hi : i < σ.length := by
      have := (List.getElem?_eq_some_iff.mp e).1
      unfold clr at this
      rw [List.length_set] at this
      rw [← s.len]
      exact this
    rw [List.getElem?_set_self hi]
theorem Sl.free {K : PySem.W.Frag} {z : Zx} {p : List Addr} {H : Hp} {r : Ev} {σ : L2.St} (s : Sl K z p H r σ) (i : Nat) : Sl K none p H (clr i r) (σ.set i none) := by
  unfold clr
  refine ⟨by rw [List.length_set, List.length_set]; exact s.len, fun j e h => ?_, fun a j hz h => nomatch hz⟩
  by_cases hj : i = j
  · subst hj
    have hi : i < r.length := by
      have := (List.getElem?_eq_some_iff.mp h).1
      rwa [List.length_set] at this
    rw [List.getElem?_set_self hi] at h
    cases h
  · rw [List.getElem?_set_ne hj] at h
    obtain ⟨u, e', q'⟩ := s.at_ j e h
    exact ⟨u, by rw [List.getElem?_set_ne hj]; exact e', q'⟩
/-- what is known of the classes that a body may raise -/
def SubOk (X : Cx) (hc : Value) (sub : Str → Option Bool) : Prop := ∀ c b D, sub c = some b → X.mg c = some (.ref D) → PySem.W.exmOne X.K (.ref D) hc = some b
section
variable {X : Cx} {W : WX} {x n : Str} {c : Value} {i : Nat} {body suite : List Stmt} {b₀ : Stmt} {np pos pos' : Pos} {sub : Str → Option Bool} {g : SF} {gs : Str → SF}
theorem ds_tryAs (hs : X.stack = X.env :: X.outer) (hf : X.env.frame = some X.env.locals) (hN : X.N.Nodup) (hi : X.N[i]? = some n) (hln : X.env.kindOf n = some .local) (hc : Names X x c) (tk : Takes X W) (so : SubOk X c sub)
    (hb : ∀ (W : WX) (pn : List (Addr × Obj)) (xe : Value → Shared → Prop), Takes (X.tr pn xe) W → PassesOwn (model X.prog X.w) X.A X.env xe → DSs (X.tr pn xe) none W body g)
    (hsu : ∀ (a : Addr) (oe : Obj) (dn : Str) (D : Addr) (pn : List (Addr × Obj)), X.mg dn = some (.ref D) → Zc (.ref D) none oe → (∃ vs, oe.data = .fields vs) → DSs (X.suite a ((a, oe) :: pn)) (some (a, i)) W0 (b₀ :: suite) (gs dn)) :
    DS X none W (.Try body [.ExceptHandler (some (.Name x np)) (some n) (b₀ :: suite) pos'] [] [] pos) (sTryAs sub i g gs) := by
  let ts : Addr → Value → Option Addr → TS := fun a cls d Dn σ H => ∃ dn D, cls = .ref D ∧ d = none ∧ X.mg dn = some (.ref D) ∧ gS ⟨X.K, X.mg, some (a, i)⟩ W0 (gs dn) Dn σ H
  refine (ps_try_as (tb := fun W => gS (Cx.k X none) W g) (ts := ts) hs hf hN hi hln hc tk hb (fun a oe cls d pn hz hv => ⟨fun pins s σ H Dn I h => ?_⟩)).imp ?_
  · obtain ⟨dn, D, rfl, rfl, hm, h⟩ := h
    exact (hsu a oe dn D pn hm hz hv).run pins s σ H Dn I h
  rintro Dn σ H ⟨p, M, r, o, R, L, e, po⟩
  unfold sTryAs at e
  cases eb : g r M with
  | none => rw [eb] at e; cases e
  | some w =>
    obtain ⟨fl, M1⟩ := w
    refine ⟨p, M, r, (fl, M1), R, L, eb, ?_⟩
    rw [eb] at e
    cases fl with
    | nx r1 => cases e; exact po
    | bk r1 => cases e; exact po
    | ct r1 => cases e; exact po
    | rt d => cases e; exact po
    | xx c1 r1 =>
      intro p' H' σ' C hp hl R' L' hC
      dsimp only at e
      cases hsb : sub c1 with
      | none => rw [hsb] at e; cases e
      | some b =>
        rw [hsb] at e
        refine ⟨b, so c1 b C hsb hC, fun hbt a ha => ?_, fun hbf => ?_⟩
        · subst hbt
          refine ⟨c1, C, rfl, rfl, hC, ?_⟩
          dsimp only at e
          cases es : gs c1 (clr i r1) M1 with
          | none => rw [es] at e; cases e
          | some w =>
            obtain ⟨fl2, M2⟩ := w
            refine ⟨p', M1, clr i r1, (fl2, M2), R', L'.hold i a, es, ?_⟩
            rw [es] at e
            cases fl2 with
            | nx r2 => cases e; exact fun p2 H2 σ2 hp2 hl2 R2 L2 => po p2 H2 _ (hp.trans hp2) (hl.trans hl2) R2 (L2.free i)
            | bk r2 => cases e; exact fun p2 H2 σ2 hp2 hl2 R2 L2 => po p2 H2 _ (hp.trans hp2) (hl.trans hl2) R2 (L2.free i)
            | ct r2 => cases e; exact fun p2 H2 σ2 hp2 hl2 R2 L2 => po p2 H2 _ (hp.trans hp2) (hl.trans hl2) R2 (L2.free i)
            | rt d => cases e; exact fun p2 H2 v hp2 hl2 R2 q => po p2 H2 v (hp.trans hp2) (hl.trans hl2) R2 q
            | xx c2 r2 => cases e
        · subst hbf
          cases e
          exact po p' H' σ' C hp hl R' L' hC
theorem ds_try (hs : X.stack = X.env :: X.outer) (hf : X.env.frame = some X.env.locals) (hc : Names X x c) (tk : Takes X W) (so : SubOk X c sub)
    (hb : ∀ (W : WX) (pn : List (Addr × Obj)) (xe : Value → Shared → Prop), Takes (X.tr pn xe) W → PassesOwn (model X.prog X.w) X.A X.env xe → DSs (X.tr pn xe) none W body g)
    (hsu : ∀ (a : Addr) (oe : Obj) (dn : Str) (D : Addr) (pn : List (Addr × Obj)), X.mg dn = some (.ref D) → Zc (.ref D) none oe → (∃ vs, oe.data = .fields vs) → DSs (X.suite a ((a, oe) :: pn)) none W0 (b₀ :: suite) (gs dn)) :
    DS X none W (.Try body [.ExceptHandler (some (.Name x np)) none (b₀ :: suite) pos'] [] [] pos) (sTry sub g gs) := by
  let ts : Addr → Value → Option Addr → TS := fun a cls d Dn σ H => ∃ dn D, cls = .ref D ∧ d = none ∧ X.mg dn = some (.ref D) ∧ gS ⟨X.K, X.mg, none⟩ W0 (gs dn) Dn σ H
  refine (ps_try_only (tb := fun W => gS (Cx.k X none) W g) (ts := ts) hs hf hc tk hb (fun a oe cls d pn hz hv => ⟨fun pins s σ H Dn I h => ?_⟩)).imp ?_
  · obtain ⟨dn, D, rfl, rfl, hm, h⟩ := h
    exact (hsu a oe dn D pn hm hz hv).run pins s σ H Dn I h
  rintro Dn σ H ⟨p, M, r, o, R, L, e, po⟩
  unfold sTry at e
  cases eb : g r M with
  | none => rw [eb] at e; cases e
  | some w =>
    obtain ⟨fl, M1⟩ := w
    refine ⟨p, M, r, (fl, M1), R, L, eb, ?_⟩
    rw [eb] at e
    cases fl with
    | nx r1 => cases e; exact po
    | bk r1 => cases e; exact po
    | ct r1 => cases e; exact po
    | rt d => cases e; exact po
    | xx c1 r1 =>
      intro p' H' σ' C hp hl R' L' hC
      dsimp only at e
      cases hsb : sub c1 with
      | none => rw [hsb] at e; cases e
      | some b =>
        rw [hsb] at e
        refine ⟨b, so c1 b C hsb hC, fun hbt a ha => ?_, fun hbf => ?_⟩
        · subst hbt
          refine ⟨c1, C, rfl, rfl, hC, ?_⟩
          dsimp only at e
          cases es : gs c1 r1 M1 with
          | none => rw [es] at e; cases e
          | some w =>
            obtain ⟨fl2, M2⟩ := w
            refine ⟨p', M1, r1, (fl2, M2), R', L', es, ?_⟩
            rw [es] at e
            cases fl2 with
            | nx r2 => cases e; exact fun p2 H2 σ2 hp2 hl2 R2 L2 => po p2 H2 _ (hp.trans hp2) (hl.trans hl2) R2 L2
            | bk r2 => cases e; exact fun p2 H2 σ2 hp2 hl2 R2 L2 => po p2 H2 _ (hp.trans hp2) (hl.trans hl2) R2 L2
            | ct r2 => cases e; exact fun p2 H2 σ2 hp2 hl2 R2 L2 => po p2 H2 _ (hp.trans hp2) (hl.trans hl2) R2 L2
            | rt d => cases e; exact fun p2 H2 v hp2 hl2 R2 q => po p2 H2 v (hp.trans hp2) (hl.trans hl2) R2 q
            | xx c2 r2 => cases e
        · subst hbf
          cases e
          exact po p' H' σ' C hp hl R' L' hC
end
/-! ### isinstance of the exception that is held -/
def eIsE (i : Nat) (o : Option Bool) : EF := fun r M => match r[i]? with
  | some none => (match o with
    | some b => some (.ok (.bl b) M)
    | none => none)
  | _ => none
structure IsI (K : PySem.W.Frag) (mg : Str → Option Value) (c : Str) (tbl : Str → Option Bool) : Prop where
  ex : ∃ C, mg c = some (.ref C) ∧ ∀ d b D, tbl d = some b → mg d = some (.ref D) → ExcC K D ∧ PySem.W.kitOne K (.ref D) (.ref C) = some b
structure IsB (K : PySem.W.Frag) (mg : Str → Option Value) (T : String) (tbl : Str → Option Bool) : Prop where
  ex : ∀ d b D, tbl d = some b → mg d = some (.ref D) → ExcC K D ∧ PySem.W.kitOne K (.ref D) (.type T) = some b
structure Hnd (K : PySem.W.Frag) (mg : Str → Option Value) (c : Str) (sub : Str → Option Bool) : Prop where
  ex : ∃ C, mg c = some (.ref C) ∧ ∀ d b D, sub d = some b → mg d = some (.ref D) → PySem.W.exmOne K (.ref D) (.ref C) = some b
theorem Hnd.ok {X : Cx} {c : Str} {sub : Str → Option Bool} (h : Hnd X.K X.mg c sub) (hg : Gl X c) (hdb : (c == ("__debug__" : Str)) = false) : ∃ v, Names X c v ∧ SubOk X v sub := by
  obtain ⟨C, h1, h2⟩ := h.ex
  exact ⟨.ref C, ⟨hg, hdb, .inl h1⟩, h2⟩
section
variable {X : Cx} {a D : Addr} {oe : Obj} {pn : List (Addr × Obj)} {dn c n : Str} {i : Nat} {tbl : Str → Option Bool} {p' p1 p2 pos : Pos} {W : WX}
theorem de_isE (F : IsI X.K X.mg c tbl) (hm : X.mg dn = some (.ref D)) (hz : Zc (.ref D) none oe) (hf : ∃ vs, oe.data = .fields vs) (hmi : X.mg "isinstance" = none) (hg : Gl X "isinstance" := by rfl) (hgc : Gl X c := by rfl) (hdb : (c == ("__debug__" : Str)) = false := by decide)
    (hN : X.N[i]? = some n := by rfl) (hv : Vis X.env.scope n := by first | exact Or.inl rfl | exact Or.inr (Or.inl rfl) | exact Or.inr (Or.inr rfl)) (hd1 : (n == ("__debug__" : Str)) = false := by decide) (hd2 : (n == ("__classdict__" : Str)) = false := by decide)
    (he : starEach [.Name n p1, .Name c p2] X.env = (false, eval (.Name n p1) X.env) :: starEach [.Name c p2] X.env := by rfl) (hpl : (backTo pos (starEach [.Name c p2] X.env)).any (·.1) = false := by rfl) (he2 : starEach [.Name c p2] X.env = (false, eval (.Name c p2) X.env) :: starEach [] X.env := by rfl) :
    DE (X.suite a ((a, oe) :: pn)) (some (a, i)) W (.Call (.Name "isinstance" p') [.Name n p1, .Name c p2] [] pos) (eIsE i (tbl dn)) := by
  obtain ⟨C, h1, h2⟩ := F.ex
  have nv : PE (X.suite a ((a, oe) :: pn)) (.Name n p1) _ := pe_var (i := i) hN hv hd1 hd2
  have cv : PE (X.suite a ((a, oe) :: pn)) (.Name c p2) _ := pe_glob (v := .ref C) hgc h1 rfl hdb
  cases ht : tbl dn with
  | none =>
    refine ⟨fun pins s σ H Q I h => ?_⟩
    obtain ⟨q, M, r, o, R, L, e, po⟩ := h
    unfold eIsE at e
    split at e <;> cases e
  | some b =>
    obtain ⟨ec, kt⟩ := h2 dn b D ht hm
    refine (pe_callB (X := X.suite a ((a, oe) :: pn)) (call_isE ec hz hf) hg hmi PyProof.Rows.boot_isinstance (pa_cons nv (pa_cons cv pa_nil he2) he) (he := he) (hpl := hpl)).imp ?_
    rintro σ H Q ⟨q, M, r, o, R, L, e, po⟩
    unfold eIsE at e
    split at e
    · rename_i hr
      cases e
      exact ⟨.ref a, L.ex a i rfl hr, .ref C, .ref C, b, rfl, (fun u hu => hu), kt, po.ok R rep_bl⟩
    · cases e
theorem de_isB {T : String} (F : IsB X.K X.mg T tbl) (hm : X.mg dn = some (.ref D)) (hz : Zc (.ref D) none oe) (hf : ∃ vs, oe.data = .fields vs) (hmi : X.mg "isinstance" = none) (hmc : X.mg c = none) (hb : bootBuiltins c = some (.type T)) (hg : Gl X "isinstance" := by rfl) (hgc : Gl X c := by rfl) (hnn : c ≠ "__name__" := by decide) (hdb : (c == ("__debug__" : Str)) = false := by decide)
    (hN : X.N[i]? = some n := by rfl) (hv : Vis X.env.scope n := by first | exact Or.inl rfl | exact Or.inr (Or.inl rfl) | exact Or.inr (Or.inr rfl)) (hd1 : (n == ("__debug__" : Str)) = false := by decide) (hd2 : (n == ("__classdict__" : Str)) = false := by decide)
    (he : starEach [.Name n p1, .Name c p2] X.env = (false, eval (.Name n p1) X.env) :: starEach [.Name c p2] X.env := by rfl) (hpl : (backTo pos (starEach [.Name c p2] X.env)).any (·.1) = false := by rfl) (he2 : starEach [.Name c p2] X.env = (false, eval (.Name c p2) X.env) :: starEach [] X.env := by rfl) :
    DE (X.suite a ((a, oe) :: pn)) (some (a, i)) W (.Call (.Name "isinstance" p') [.Name n p1, .Name c p2] [] pos) (eIsE i (tbl dn)) := by
  have nv : PE (X.suite a ((a, oe) :: pn)) (.Name n p1) _ := pe_var (i := i) hN hv hd1 hd2
  have cv : PE (X.suite a ((a, oe) :: pn)) (.Name c p2) _ := pe_bltn (v := .ty T) hgc hmc hb rfl hnn hdb
  cases ht : tbl dn with
  | none =>
    refine ⟨fun pins s σ H Q I h => ?_⟩
    obtain ⟨q, M, r, o, R, L, e, po⟩ := h
    unfold eIsE at e
    split at e <;> cases e
  | some b =>
    obtain ⟨ec, kt⟩ := F.ex dn b D ht hm
    refine (pe_callB (X := X.suite a ((a, oe) :: pn)) (call_isE ec hz hf) hg hmi PyProof.Rows.boot_isinstance (pa_cons nv (pa_cons cv pa_nil he2) he) (he := he) (hpl := hpl)).imp ?_
    rintro σ H Q ⟨q, M, r, o, R, L, e, po⟩
    unfold eIsE at e
    split at e
    · rename_i hr
      cases e
      exact ⟨.ref a, L.ex a i rfl hr, .ty T, .type T, b, rfl, (fun u hu => hu), kt, po.ok R rep_bl⟩
    · cases e
end
/-! ### the head's part -/
def excB (K : PySem.W.Frag) (x : Str) : Bool :=
  He.eqO (PySem.W.findIn K (.ref (He.ga K x)) "__getattribute__") (some (some (.builtin "BaseException.__getattribute__"))) && (He.eqO (PySem.W.findIn K (.ref (He.ga K x)) "__getattr__") (some none) && (decide (PySem.W.subIn K (.ref (He.ga K x)) (.type "BaseException") = some true) && (PySem.W.hasDictIn K (He.ga K x) && (
  He.eqO (PySem.W.findIn K (.ref (He.ga K x)) "__class__") (some (some (.builtin "object.__class__"))) && (He.eqO (PySem.W.specialIn K (.builtin "object.__class__") "__get__") (some (some (.builtin "getset_descriptor.__get__"))) && (decide (PySem.W.takesIn K (.builtin "object.__class__") = some true) && decide (PySem.W.mroIn K (He.ga K x) (.type "object") = some true)))))))
theorem excB_ok {K : PySem.W.Frag} {x : Str} (h : excB K x = true) : ExcC K (He.ga K x) := by
  obtain ⟨h1, h⟩ := He.ba h
  obtain ⟨h2, h⟩ := He.ba h
  obtain ⟨h3, h⟩ := He.ba h
  obtain ⟨h4, h⟩ := He.ba h
  obtain ⟨h5, h⟩ := He.ba h
  obtain ⟨h6, h⟩ := He.ba h
  obtain ⟨h7, h8⟩ := He.ba h
  exact ⟨He.eqO_ok h1, He.eqO_ok h2, of_decide_eq_true h3, h4, He.eqO_ok h5, He.eqO_ok h6, of_decide_eq_true h7, of_decide_eq_true h8⟩
def kitB (K : PySem.W.Frag) (x : Str) (v : Value) (b : Bool) : Bool := decide (PySem.W.kitOne K (.ref (He.ga K x)) v = some b)
theorem kitB_ok {K : PySem.W.Frag} {x : Str} {v : Value} {b : Bool} (h : kitB K x v b = true) : PySem.W.kitOne K (.ref (He.ga K x)) v = some b := of_decide_eq_true h
theorem ex_at {l : List Bool} (h : l.all id = true) (i : Nat) {b : Bool} (e : l[i]? = some b := by rfl) : b = true := List.all_eq_true.mp h b (List.mem_of_getElem? e)
def tblOf (l : List (Str × Bool)) : Str → Option Bool := fun d => l.lookup d
theorem tblOf_mem {d : Str} {b : Bool} : ∀ {l : List (Str × Bool)}, tblOf l d = some b → (d, b) ∈ l
  | [], h => nomatch h
  | (x, y) :: l, h => by
    unfold tblOf at h
    rw [List.lookup_cons] at h
    by_cases e : d == x
    · rw [e] at h
      cases h
      rw [eq_of_beq e]
      exact List.mem_cons_self
    · rw [Bool.not_eq_true] at e
      rw [e] at h
      exact List.mem_cons_of_mem _ (tblOf_mem h)
theorem hnd_of {K : PySem.W.Frag} {mg : Str → Option Value} {c : Str} {l : List (Str × Bool)} (h : mg c = some (.ref (He.ga K c))) (hl : ∀ p ∈ l, mg p.1 = some (.ref (He.ga K p.1)) ∧ PySem.W.exmOne K (.ref (He.ga K p.1)) (.ref (He.ga K c)) = some p.2) : Hnd K mg c (tblOf l) := by
  refine ⟨_, h, fun d b D ht hm => ?_⟩
  obtain ⟨h1, h2⟩ := hl _ (tblOf_mem ht)
  rw [h1] at hm
  cases hm
  exact h2
theorem isI_of {K : PySem.W.Frag} {mg : Str → Option Value} {c : Str} {l : List (Str × Bool)} (h : mg c = some (.ref (He.ga K c))) (hl : ∀ p ∈ l, mg p.1 = some (.ref (He.ga K p.1)) ∧ ExcC K (He.ga K p.1) ∧ PySem.W.kitOne K (.ref (He.ga K p.1)) (.ref (He.ga K c)) = some p.2) : IsI K mg c (tblOf l) := by
  refine ⟨_, h, fun d b D ht hm => ?_⟩
  obtain ⟨h1, h2⟩ := hl _ (tblOf_mem ht)
  rw [h1] at hm
  cases hm
  exact h2
theorem isB_of {K : PySem.W.Frag} {mg : Str → Option Value} {T : String} {l : List (Str × Bool)} (hl : ∀ p ∈ l, mg p.1 = some (.ref (He.ga K p.1)) ∧ ExcC K (He.ga K p.1) ∧ PySem.W.kitOne K (.ref (He.ga K p.1)) (.type T) = some p.2) : IsB K mg T (tblOf l) := by
  refine ⟨fun d b D ht hm => ?_⟩
  obtain ⟨h1, h2⟩ := hl _ (tblOf_mem ht)
  rw [h1] at hm
  cases hm
  exact h2
theorem xcl_of {K : PySem.W.Frag} {mg : Str → Option Value} {c : Str} (h : mg c = some (.ref (He.ga K c))) (hc : (He.Fa.exc c).ok K = true) : XCl K mg c := by
  obtain ⟨h1, h2, h3, h4⟩ := He.exc_ok hc
  exact ⟨_, h, h1, h2, h3, h4⟩
section
variable {X : Cx} {W : WX} {x n : Str} {i : Nat} {body suite : List Stmt} {b₀ : Stmt} {np pos pos' : Pos} {sub : Str → Option Bool} {g : SF} {gs : Str → SF}
theorem ds_tryAsH (i : Nat) (hN : X.N.Nodup) (tk : Takes X W) (F : Hnd X.K X.mg x sub)
    (hb : ∀ (W : WX) (pn : List (Addr × Obj)) (xe : Value → Shared → Prop), Takes (X.tr pn xe) W → PassesOwn (model X.prog X.w) X.A X.env xe → DSs (X.tr pn xe) none W body g)
    (hsu : ∀ (a : Addr) (oe : Obj) (dn : Str) (D : Addr) (pn : List (Addr × Obj)), X.mg dn = some (.ref D) → Zc (.ref D) none oe → (∃ vs, oe.data = .fields vs) → DSs (X.suite a ((a, oe) :: pn)) (some (a, i)) W0 (b₀ :: suite) (gs dn))
    (hs : X.stack = X.env :: X.outer := by rfl) (hf : X.env.frame = some X.env.locals := by rfl) (hi : X.N[i]? = some n := by rfl) (hln : X.env.kindOf n = some .local := by rfl) (hg : Gl X x := by rfl) (hdb : (x == ("__debug__" : Str)) = false := by decide) :
    DS X none W (.Try body [.ExceptHandler (some (.Name x np)) (some n) (b₀ :: suite) pos'] [] [] pos) (sTryAs sub i g gs) := by
  obtain ⟨v, h1, h2⟩ := F.ok hg hdb
  exact ds_tryAs hs hf hN hi hln h1 tk h2 hb hsu
theorem ds_tryH (tk : Takes X W) (F : Hnd X.K X.mg x sub)
    (hb : ∀ (W : WX) (pn : List (Addr × Obj)) (xe : Value → Shared → Prop), Takes (X.tr pn xe) W → PassesOwn (model X.prog X.w) X.A X.env xe → DSs (X.tr pn xe) none W body g)
    (hsu : ∀ (a : Addr) (oe : Obj) (dn : Str) (D : Addr) (pn : List (Addr × Obj)), X.mg dn = some (.ref D) → Zc (.ref D) none oe → (∃ vs, oe.data = .fields vs) → DSs (X.suite a ((a, oe) :: pn)) none W0 (b₀ :: suite) (gs dn))
    (hs : X.stack = X.env :: X.outer := by rfl) (hf : X.env.frame = some X.env.locals := by rfl) (hg : Gl X x := by rfl) (hdb : (x == ("__debug__" : Str)) = false := by decide) :
    DS X none W (.Try body [.ExceptHandler (some (.Name x np)) none (b₀ :: suite) pos'] [] [] pos) (sTry sub g gs) := by
  obtain ⟨v, h1, h2⟩ := F.ok hg hdb
  exact ds_try hs hf h1 tk h2 hb hsu
end
/-- an expression of which nothing is told -/
def eNo : EF := fun _ _ => none
theorem de_no {X : Cx} {z : Zx} {W : WX} {e : Expr} : DE X z W e eNo := by
  refine ⟨fun pins s σ H Q I h => ?_⟩
  obtain ⟨p, M, r, o, R, L, e, _⟩ := h
  exact nomatch e
end DI

end

section
set_option Elab.async false
set_option linter.all false
set_option maxRecDepth 100000
set_option maxHeartbeats 4000000
/-! DI10: sorted(..) of ints. -/
namespace DI
open PySem PySem.Spec PyProof.Rows L2
theorem seK_obj {k : Bool} {h : Heap} {l : Addr} {xs : Array Value} (e : SeK k h l xs) : ∃ T o n, (T = "list" ∨ T = "tuple") ∧ h.get? l = some o ∧ o.cls = .type T ∧ o.data = .seq xs n := by
  cases k
  · obtain ⟨o, a, b, n, c⟩ := e
    exact ⟨"list", o, n, .inl rfl, a, b, c⟩
  · obtain ⟨o, a, b, n, c⟩ := e
    exact ⟨"tuple", o, n, .inr rfl, a, b, c⟩
theorem sorted_any {prog : Program} {w : World} {A : Around} {E : Value → Shared → Prop} {s : Shared} {k : Bool} {l : Addr} {vs : List Value} {ltv : Value → Value → Bool} {Q : Value → Shared → Prop} (O : SrtO.Swo ltv) (hl : SeK k s.heap l vs.toArray) (hz : vs.length ≤ sizeLine)
    (hS : 2 ≤ vs.length → ∀ (h₁ : Heap) (a : Addr), SrtO.SortableO prog w A.in1.in1 { s with heap := h₁ } a vs ltv)
    (h : ∀ (h' : Heap) (out : List Value), (∀ b o, s.heap.get? b = some o → h'.get? b = some o) → SrtO.Srtd ltv out → SrtO.Stb ltv out vs → Q (.ref h'.objs.size) { s with heap := sortedHeap (h'.push (seqObj "list" vs.toArray 0)) h'.objs.size vs out.toArray }) :
    wpAny (model prog w) A (call (.builtin "sorted") [.ref l]) Q E s := by
  obtain ⟨T, o, n, hT, ho, hc, hd⟩ := seK_obj hl
  refine Calls.call_function_entry kind_sorted plain_sorted entry_sorted (args_sorted1 _) ?_
  unfold Builtin.«sorted»
  refine wpAny_bind (m := checkCount "sorted" 1 1 _) (wpAny_pure ?_)
  refine wpAny_bind (wpAny_collect_seq l hT ho hc hd (fun h' keep => ?_) (by rw [List.size_toArray]; exact hz))
  have hoL : (h'.push (seqObj "list" vs.toArray 0)).get? h'.objs.size = some (seqObj "list" vs.toArray 0) := Heap.get?_push_size _ rfl
  refine wpAny_bind (wpAny_newList ?_ hz)
  show wpAny _ _ _ _ _ { s with heap := h'.push (seqObj "list" vs.toArray 0) }
  refine wpAny_bind (wpAny_holding (wpAny_call_entry slot_list_sort ⟨_, hoL, rfl⟩ entry_list_sort (SrtO.list_sort_ord O hoL hz (fun h2 => hS h2 _ _) fun out hs hb => ⟨_, rfl, ?_⟩) (args_list_sort _)))
  exact wpAny_pure ⟨_, rfl, h h' out keep hs hb⟩
def rSorted1 (K : PySem.W.Frag) : List V → Hp → VK → Prop := fun vs H Q => ∃ (k : Bool) (a : Addr) (ns : List Int), vs = [V.ref a] ∧ SqK K k H a (ns.map V.int) ∧ ns.length ≤ 16777216 ∧
  ∀ (ns' : List Int) (p : Addr), ns'.Perm ns → ns'.Pairwise (· ≤ ·) → H p = none → Q (.ref p) (upd H p (.lst (ns'.map V.int)))
theorem cr_sorted1 {X : Cx} : CallR X (.builtin "sorted") (rSorted1 X.K) := by
  intro pins s σ H vs us Q I r h
  obtain ⟨k, a, ns, rfl, hs, hz, q⟩ := h
  obtain ⟨⟨its, rv, hl⟩, la, _⟩ := sqK I hs
  rw [Vals.ref1 r]
  have hi := rv.ints
  have hlen : its.length ≤ sizeLine := by rw [← rv.length, List.length_map]; exact line_eq hz
  refine sorted_any SrtO.swo_int hl hlen (fun h2 h₁ a' => SrtO.ints_sortable hi h2) fun h' out keep h1 h2 => ?_
  obtain ⟨k1, k2, k3⟩ := SrtO.ints_out hi h1 h2
  have hn : s.heap.get? h'.objs.size = none := by
    cases e : s.heap.get? h'.objs.size with
    | none => rfl
    | some o => exact absurd (Heap.lt_size (keep _ _ e)) (Nat.lt_irrefl _)
  have hH : H h'.objs.size = none := I.hok.gone hn
  have hoL : (h'.push (seqObj "list" its.toArray 0)).get? h'.objs.size = some (seqObj "list" its.toArray 0) := Heap.get?_push_size _ rfl
  obtain ⟨ep, he'⟩ := sortedHeap_at (out := out.toArray) hoL
  have kp : ∀ b u, s.heap.get? b = some u → (sortedHeap (h'.push (seqObj "list" its.toArray 0)) h'.objs.size its out.toArray).get? b = some u := fun b u e => by
    have hb : @LT.lt Nat _ b h'.objs.size := Heap.lt_size (keep _ _ e)
    rw [sortedHeap_old (a_ne (.inl hb)) (by show @LT.lt Nat _ b (h'.push _).objs.size; rw [Heap.size_push]; omega)]
    exact Heap.get?_push_of_some _ (keep _ _ e)
  have hl2 : ((out.map SrtO.iv).map V.int).length ≤ sizeLine := by
    rw [List.length_map, k2.length_eq]
    exact line_eq hz
  exact ⟨.ref _, upd H h'.objs.size (.lst ((out.map SrtO.iv).map V.int)), I.laidN (t' := s.toks) kp hn hH ⟨hl2, out, ep, vals_of_ints k1, he'⟩, rfl, q _ _ k2 k3 hH⟩
/-- ascending -/
def sortI (ns : List Int) : List Int := ns.mergeSort fun a b => decide (a ≤ b)
theorem sortI_perm (ns : List Int) : (sortI ns).Perm ns := List.mergeSort_perm _ _
theorem sortI_pair (ns : List Int) : (sortI ns).Pairwise (· ≤ ·) := by
  have := List.pairwise_mergeSort (le := fun a b : Int => decide (a ≤ b)) (fun a b c h1 h2 => by simp at *; omega) (fun a b => by simp; omega) ns
  exact this.imp fun h => by simpa using h
theorem sort_uniq : ∀ {xs ys : List Int}, xs.Perm ys → xs.Pairwise (· ≤ ·) → ys.Pairwise (· ≤ ·) → xs = ys
  | [], ys, h, _, _ => (List.Perm.nil_eq h).symm ▸ rfl
  | x :: xs, [], h, _, _ => absurd h.length_eq (by simp)
  | x :: xs, y :: ys, h, h1, h2 => by
    rw [List.pairwise_cons] at h1 h2
    have e : x = y := by
      have m1 : x ∈ y :: ys := h.mem_iff.mp List.mem_cons_self
      have m2 : y ∈ x :: xs := h.mem_iff.mpr List.mem_cons_self
      rcases List.mem_cons.mp m1 with q | q
      · exact q
      · rcases List.mem_cons.mp m2 with q2 | q2
        · exact q2.symm
        · have := h2.1 x q
          have := h1.1 y q2
          omega
    subst e
    rw [sort_uniq (List.Perm.cons_inv h) h1.2 h2.2]
def sortedG : D → Hd → Option (Rs D) := fun d M => match sqD d M with
  | some (ds, _) => (match ds.mapM intOf with
    | some ns => if ns.length ≤ 16777216 then some (.ok (.ref M.length) (M ++ [.lst ((sortI ns).map D.int)])) else none
    | _ => Option.none)
  | _ => Option.none
theorem reps_of_ints {K : PySem.W.Frag} {p : List Addr} {H : Hp} : ∀ (ns : List Int), Reps K p H (ns.map D.int) (ns.map V.int)
  | [] => reps_nil
  | n :: ns => reps_cons rep_int (reps_of_ints ns)
theorem de_sorted {X : Cx} {z : Zx} {W : WX} {e : Expr} {f : EF} {pos p' : Pos} (ha : DE X z W e f) (hm : X.mg "sorted" = Option.none) (hg : Gl X "sorted" := by rfl) (he : starEach [e] X.env = (false, eval e X.env) :: starEach [] X.env := by rfl) : DE X z W (.Call (.Name "sorted" p') [e] [] pos) (eUn sortedG f) := by
  refine (pe_callB cr_sorted1 hg hm PyProof.Rows.boot_sorted (pa_cons ha pa_nil he) (he := he)).imp ?_
  rintro σ H Q ⟨p, M, ρ, o, R, L, e, po⟩
  refine gE_bnd R L e po fun d M1 p1 H1 v R1 L1 hl1 hp1 q1 e1 po1 => ?_
  unfold sortedG at e1
  split at e1
  · rename_i ds g hd
    split at e1
    · rename_i ns hn
      split at e1
      · rename_i hl
        cases e1
        obtain ⟨a, b, rfl, s1, k1⟩ := sq_of R1 q1 hd
        obtain ⟨vs, r, s⟩ := k1 p1 M1 H1 (List.prefix_refl _) (Le.refl _) R1 s1
        have := reps_ints r hn
        subst this
        refine ⟨b, a, ns, rfl, s, hl, fun ns' q hp hs hq => ?_⟩
        rw [sort_uniq (hp.trans (sortI_perm ns).symm) hs (sortI_pair ns)]
        exact po_lst R1 po1 (reps_of_ints _) q hq
      · cases e1
    · cases e1
  · cases e1
end DI

end

section
set_option Elab.async false
set_option linter.all false
set_option maxRecDepth 100000
set_option maxHeartbeats 4000000
/-! DI11: range(a, b, -1). -/
namespace DI
open PySem PySem.Spec PyProof.Rows L2
def downD (lo : Int) (n : Nat) : List D := (List.range n).map fun (i : Nat) => D.int (lo + (i : Int) * (-1))
noncomputable def rngD (f g h : EF) : IF := fun r M => bnd (f r M) fun d M1 => bnd (g r M1) fun e M2 => bnd (h r M2) fun c M3 => match d, e, c with
  | .int a, .int b, .int (-1) => if Sm a ∧ Sm b then some (.ok (downD a (a - b).toNat, []) M3) else none
  | _, _, _ => none
section
variable {X : Cx} {z : Zx} {W : WX} {a b c e tg : Expr} {fa fb fc f : EF} {pos : Pos}
theorem itc_ok {k : Kx} {p : List Addr} {H : Hp} {lo : Int} {n : Nat} : ItOk k p H (downD lo n, []) (Itc lo (-1) n) := by
  intro i p' M' H' hp hl R S
  refine ⟨fun d e => ?_, fun e => ?_⟩
  · unfold downD at e
    dsimp only at e
    rw [List.getElem?_map] at e
    by_cases hi : i < n
    · rw [List.getElem?_range hi] at e
      cases e
      refine ⟨hi, fun v H2 y => ?_⟩
      obtain ⟨rfl, rfl⟩ := y
      exact ⟨Le.refl _, R, rep_int⟩
    · rw [List.getElem?_eq_none (by simpa using hi)] at e
      cases e
  · have e : i = (downD lo n).length := e
    unfold downD at e
    rw [List.length_map, List.length_range] at e
    exact Nat.le_of_eq e.symm
theorem di_rngD {p' : Pos} (ha : DE X z W a fa) (hb : DE X z W b fb) (hc : DE X z W c fc) (hm : X.mg "range" = none) (hg : Gl X "range" := by rfl) (hs : starEach [a, b, c] X.env = (false, eval a X.env) :: starEach [b, c] X.env := by rfl)
    (hs2 : starEach [b, c] X.env = (false, eval b X.env) :: starEach [c] X.env := by rfl) (hs3 : starEach [c] X.env = (false, eval c X.env) :: starEach [] X.env := by rfl) (hpl : (backTo pos (starEach [b, c] X.env)).any (·.1) = false := by rfl) :
    DI_ X z W tg (.Call (.Name "range" p') [a, b, c] [] pos) (rngD fa fb fc) := by
  refine (pi_range3 hg hm (pa_cons ha (pa_cons hb (pa_cons hc pa_nil hs3) hs2) hs) hs hpl).imp ?_
  rintro σ H Q ⟨p, M, ρ, o, R, L, e, po⟩
  refine gE_bnd R L e po fun d M1 p1 H1 v R1 L1 hl1 hp1 q1 e1 po1 => ?_
  refine gE_bnd R1 L1 e1 po1 fun d2 M2 p2 H2 v2 R2 L2 hl2 hp2 q2 e2 po2 => ?_
  refine gE_bnd R2 L2 e2 po2 fun d3 M3 p3 H3 v3 R3 L3 hl3 hp3 q3 e3 po3 => ?_
  split at e3
  · rename_i x y
    split at e3
    · rename_i hsm
      cases e3
      unfold Rep at q1 q2 q3
      subst q1 q2 q3
      exact ⟨x, y, -1, _, rfl, RgC.neg hsm.1.1 hsm.1.2 hsm.2.1 hsm.2.2, po3.ok R3 itc_ok⟩
    · cases e3
  · cases e3
end
end DI

end

section
set_option Elab.async false
set_option linter.all false
set_option maxRecDepth 100000
set_option maxHeartbeats 4000000
/-! DI12: a module's dict of text keys asked by get; in and not in of flat items. -/
namespace DI
open PySem PySem.Spec PyProof.Rows L2

/-- the head's facts, tables with text keys, one test more -/
def hookR (n : Nat) (fa : List He.Fa) (fn : List He.DefD) (ts : List He.Tab) (ex : PySem.W.Frag → Bool) : PySem.W.Hook where
  α := He.AlT × Bool
  obs := fun s => (He.obsT fa fn ts (He.frG s.heap.get? (He.asD s.heap.get? n)), ex (He.frG s.heap.get? (He.asD s.heap.get? n)))
  val := fun w => (He.valT fn ts w, true)
  says := fun w h => ∃ K : PySem.W.Frag, K.In h ∧ He.SaysT fa fn ts w K ∧ ex K = true
  of := fun _ _ e => ⟨_, He.frG_in, congrArg Prod.fst e, congrArg Prod.snd e⟩
  keeps := fun _ _ _ ⟨K, hK, c⟩ k => ⟨K, PySem.W.Frag.In.keeps hK k, c⟩
def obR (n : Nat) (fa : List He.Fa) (fn : List He.DefD) (ts : List He.Tab) (ex : PySem.W.Frag → Bool) (g : Addr → Option Obj) : He.AlT × Bool := (He.obsT fa fn ts (He.frG g (He.asD g n)), ex (He.frG g (He.asD g n)))
theorem obR_eq {n : Nat} {fa : List He.Fa} {fn : List He.DefD} {ts : List He.Tab} {ex : PySem.W.Frag → Bool} {g : Addr → Option Obj} {s : Shared} (h : ∀ a, g a = s.heap.get? a) : obR n fa fn ts ex g = (hookR n fa fn ts ex).obs s := by
  have e : g = s.heap.get? := funext h
  rw [e]
  rfl
theorem dicW_keys {K : PySem.W.Frag} {P : Params} {a : Addr} {ks : List Str} {es : Array DictEntry} {n : Nat} (h : He.dicW K a = some (He.keysIn P ks)) (hl : K.lookup a = some ⟨.type "dict", none, .dict es n, #[]⟩) : es.toList.map He.keyOf = He.keysIn P ks := by
  unfold He.dicW at h
  rw [hl] at h
  dsimp only at h
  split at h
  · exact Option.some.inj h
  · cases h
theorem tab_at {fa : List He.Fa} {fn : List He.DefD} {ts : List He.Tab} {w : World} {K : PySem.W.Frag} (c : He.SaysT fa fn ts w K) (i : Nat) {t : He.Tab} (h : ts[i]? = some t := by rfl) : He.dicW K (t.1 K) = some (He.keysIn w.params t.2) := by
  have e : ts.map (fun t => He.dicW K (t.1 K)) = ts.map fun t => some (He.keysIn w.params t.2) := congrArg (fun z : He.AlT => z.2) c
  have e2 : (ts.map fun t => He.dicW K (t.1 K))[i]? = (ts.map fun t => some (He.keysIn w.params t.2))[i]? := by rw [e]
  rw [List.getElem?_map, List.getElem?_map, h] at e2
  exact Option.some.inj e2
theorem find_none {P : Params} {z : Str} : ∀ {l : List DictEntry} {ks : List Str}, l.map He.keyOf = He.keysIn P ks → z ∉ ks → l.find? (·.key.isStr z) = none ∧ l.any (·.refKey) = false
  | [], _, _, _ => ⟨rfl, rfl⟩
  | e :: r, [], h, _ => by cases h
  | e :: r, k :: ks, h, hz => by
    have h1 : He.keyOf e :: r.map He.keyOf = some (k, PyData.keyHash P k) :: He.keysIn P ks := h
    injection h1 with h2 h3
    obtain ⟨i1, i2⟩ := find_none h3 fun q => hz (List.mem_cons_of_mem _ q)
    unfold He.keyOf at h2
    split at h2
    · rename_i x t q
      have h4 := Option.some.inj h2
      obtain ⟨h5, h6⟩ := Prod.mk.inj h4
      subst h5
      have hn : e.key.isStr z = false := by
        rw [q]
        exact beq_eq_false_iff_ne.mpr fun hh => hz (by rw [hh]; exact List.mem_cons_self)
      have hr : e.refKey = false := by unfold DictEntry.refKey; rw [q]
      exact ⟨by rw [List.find?_cons, hn]; exact i1, by rw [List.any_cons, hr]; exact i2⟩
    · cases h2
/-- a module's dict: text keys, ints -/
structure Tbl (K : PySem.W.Frag) (w : World) (mg : Str → Option Value) (x : Str) (kvs : List (Str × Int)) : Prop where
  ex : ∃ a es n, mg x = some (.ref a) ∧ KDict K w a es n ∧ ∀ z, match kvs.lookup z with
    | some i => ∃ u, PySem.W.nsIn K a z = some (some u) ∧ RelV (.int i) u
    | none => PySem.W.nsIn K a z = some none
def intsB (K : PySem.W.Frag) (a : Addr) (kvs : List (Str × Int)) : Bool := kvs.all fun q => match PySem.W.nsIn K a q.1 with
  | some (some (.int i _)) => i == q.2
  | _ => false
theorem intsB_ok {K : PySem.W.Frag} {a : Addr} {kvs : List (Str × Int)} (h : intsB K a kvs = true) {q : Str × Int} (hq : q ∈ kvs) : ∃ u, PySem.W.nsIn K a q.1 = some (some u) ∧ RelV (.int q.2) u := by
  have h2 := List.all_eq_true.mp h q hq
  split at h2
  · rename_i i t e
    refine ⟨_, e, t, ?_⟩
    rw [eq_of_beq h2]
  · cases h2
theorem lookup_mem' {z : Str} {i : Int} : ∀ {l : List (Str × Int)}, l.lookup z = some i → (z, i) ∈ l
  | [], h => nomatch h
  | (x, y) :: l, h => by
    rw [List.lookup_cons] at h
    by_cases e : z == x
    · rw [e] at h
      cases h
      rw [eq_of_beq e]
      exact List.mem_cons_self
    · rw [Bool.not_eq_true] at e
      rw [e] at h
      exact List.mem_cons_of_mem _ (lookup_mem' h)
theorem lookup_none' {z : Str} : ∀ {l : List (Str × Int)}, l.lookup z = none → z ∉ l.map (·.1)
  | [], _ => by simp
  | (x, y) :: l, h => by
    rw [List.lookup_cons] at h
    by_cases e : z == x
    · rw [e] at h; cases h
    · rw [Bool.not_eq_true] at e
      rw [e] at h
      rw [List.map_cons, List.mem_cons]
      rintro (q | q)
      · rw [q] at e; simp at e
      · exact lookup_none' h q
theorem tbl_of {K : PySem.W.Frag} {w : World} {mg : Str → Option Value} {x : Str} {kvs : List (Str × Int)} (h : mg x = some (.ref (He.ga K x))) (hd : He.dicW K (He.ga K x) = some (He.keysIn w.params (kvs.map (·.1)))) (hv : intsB K (He.ga K x) kvs = true) : Tbl K w mg x kvs := by
  obtain ⟨es, n, D⟩ := He.dicW_ok hd
  refine ⟨_, es, n, h, D, fun z => ?_⟩
  cases e : kvs.lookup z with
  | some i => exact intsB_ok hv (lookup_mem' e)
  | none =>
    obtain ⟨f1, f2⟩ := find_none (z := z) (dicW_keys hd D.at_) (lookup_none' e)
    show PySem.W.nsIn K (He.ga K x) z = some none
    unfold PySem.W.nsIn
    rw [D.at_]
    dsimp only
    rw [f1, f2]
    rfl
def getC (kvs : List (Str × Int)) (fa : EF) : EF := fun r M => bnd (fa r M) fun x M1 => match x with
  | .str z => some (.ok (match kvs.lookup z with
    | some i => .int i
    | none => .non) M1)
  | _ => none
theorem de_getC {X : Cx} {z : Zx} {W : WX} {e : Expr} {fa : EF} {x : Str} {kvs : List (Str × Int)} {np apos cpos : Pos} (T : Tbl X.K X.w X.mg x kvs) (ha : DE X z W e fa) (hg : Gl X x := by rfl) (hdb : (x == ("__debug__" : Str)) = false := by decide) (m : M1 X (.Name x np) "get" apos e cpos := by exact ⟨rfl, rfl, rfl, rfl⟩) :
    DE X z W (.Call (.Attribute (.Name x np) "get" apos) [e] [] cpos) (getC kvs fa) := by
  obtain ⟨a, es, n, h1, Dk, h2⟩ := T.ex
  refine ⟨fun pins s σ H Q I h => ?_⟩
  obtain ⟨p, M, r, o, R, L, ee, po⟩ := h
  refine wpAny_Call_method m.base m.few m.line PySem.F.plainAttrs_dict PySem.F.slot_dict_get PySem.F.type_dict_get (thn ((pe_glob (v := .ref a) hg h1 rfl hdb).run pins s σ H (fun v H1 => v = .ref a ∧ H1 = H) I ⟨rfl, rfl⟩) fun u s1 ⟨x1, H1, I1, rx, ex, eh⟩ => ?_)
  subst ex
  subst eh
  obtain rfl : u = Value.ref a := rx
  refine ⟨kd_type Dk I1, fun b hb => ?_, ?_⟩
  · cases hb
    exact ⟨_, I1.kIn _ _ Dk.at_, rfl⟩
  rw [m.trees]
  refine Calls.callWith_builtin rfl (Calls.evalArgs_plain (Calls.spliced_cons (thn (ha.run pins s1 σ H1 (fun y H2 => ∃ z0 v0, y = .str z0 ∧ (match kvs.lookup z0 with | some i => v0 = V.int i | none => v0 = V.non) ∧ Q v0 H2) I1 ?_) fun iv s2 ⟨y, H2, I2, ry, z0, v0, ey, hv, q2⟩ => Calls.spliced_nil ?_)))
  · refine gE_bnd R L ee po fun d M1 p1 H2 v R1 L1 hl1 hp1 q1 e1 po1 => ?_
    cases d with
    | str z0 =>
      unfold Rep at q1
      subst q1
      dsimp only at e1
      cases e1
      cases hk : kvs.lookup z0 with
      | some i => 
        rw [hk] at po1
        exact ⟨z0, .int i, rfl, by rw [hk], po1.ok R1 rep_int⟩
      | none => 
        rw [hk] at po1
        exact ⟨z0, .non, rfl, by rw [hk], po1.ok R1 rep_non⟩
    | _ => cases e1
  subst ey
  obtain ⟨t, rfl⟩ := ry
  refine call_meetsIn PySem.F.slot_dict_get (kd_type Dk I2) PySem.F.entry_dict_get (PySem.F.args_dict_get_2 _ _) (meets_dict_get (strKind X.prog X.w) a (PySem.strKind_is X.prog X.w z0 t) Dk.low) ⟨_, PySem.W.mapOf_K (prog := X.prog) I2.kIn Dk.at_ Dk.lit, ?_⟩
  have hz := h2 z0
  cases hk : kvs.lookup z0 with
  | some i =>
    rw [hk] at hz hv
    obtain ⟨u0, n1, n2⟩ := hz
    subst hv
    rw [PySem.W.find_K Dk.at_ n1]
    exact ⟨_, H2, I2.tok _, n2, q2⟩
  | none =>
    rw [hk] at hz hv
    subst hv
    rw [PySem.W.find_K Dk.at_ hz]
    exact ⟨V.non, H2, I2.tok _, (rfl : Value.none = Value.none), q2⟩

/-! ### in, not in of flat items -/
def D.flat : D → Bool
  | .non => true
  | .bl _ => true
  | .int _ => true
  | .str _ => true
  | _ => false
def eqF : D → D → Bool
  | .non, .non => true
  | .bl a, .bl b => a == b
  | .bl a, .int b => (if a then 1 else 0) == b
  | .int a, .bl b => a == (if b then 1 else 0)
  | .int a, .int b => a == b
  | .str a, .str b => a == b
  | _, _ => false
theorem rep_flat {K : PySem.W.Frag} {p : List Addr} {H : Hp} {d : D} {v : V} (h : Rep K p H d v) (f : d.flat = true) : flatV v = true := by
  cases d <;> first | (cases f; done) | (unfold Rep at h; subst h; rfl)
theorem rep_eqF {K : PySem.W.Frag} {p : List Addr} {H : Hp} {d e : D} {v u : V} (h : Rep K p H d v) (k : Rep K p H e u) (f : d.flat = true) (g : e.flat = true) : eqV v u = eqF d e := by
  cases d <;> first | (cases f; done) | (unfold Rep at h; subst h; cases e <;> first | (cases g; done) | (unfold Rep at k; subst k; rfl))
theorem reps_flat {K : PySem.W.Frag} {p : List Addr} {H : Hp} : ∀ {ds : List D} {vs : List V}, Reps K p H ds vs → ds.all D.flat = true → vs.all flatV = true
  | [], vs, h, _ => by unfold Reps at h; subst h; rfl
  | d :: ds, vs, h, f => by
    unfold Reps at h
    obtain ⟨v, ws, rfl, h1, h2⟩ := h
    rw [List.all_cons, Bool.and_eq_true] at f ⊢
    exact ⟨rep_flat h1 f.1, reps_flat h2 f.2⟩
theorem reps_inV {K : PySem.W.Frag} {p : List Addr} {H : Hp} {e : D} {u : V} (k : Rep K p H e u) (g : e.flat = true) : ∀ {ds : List D} {vs : List V}, Reps K p H ds vs → ds.all D.flat = true → inV u vs = ds.any fun y => eqF y e
  | [], vs, h, _ => by unfold Reps at h; subst h; rfl
  | d :: ds, vs, h, f => by
    unfold Reps at h
    obtain ⟨v, ws, rfl, h1, h2⟩ := h
    rw [List.all_cons, Bool.and_eq_true] at f
    have ih := reps_inV k g h2 f.2
    unfold inV at ih ⊢
    rw [List.any_cons, List.any_cons, ih, rep_eqF h1 k f.1 g]
def inG (neg : Bool) : G2 := fun x y M => match itemsD y M with
  | some ds => if x.flat && ds.all D.flat then some (.ok (.bl (if neg then !(ds.any fun z => eqF z x) else ds.any fun z => eqF z x)) M) else none
  | none => none
theorem od_in {k : Kx} {neg : Bool} : OD k (rIn k.K neg) (inG neg) := by
  intro p M H x y v u o Q W σ R rx ry e po
  unfold inG at e
  split at e
  · rename_i ds hi
    split at e
    · rename_i hf
      rw [Bool.and_eq_true] at hf
      cases e
      obtain ⟨a, vs, rfl, h1, h2⟩ := rep_items R ry hi
      refine ⟨a, vs, rfl, h1, rep_flat rx hf.1, reps_flat h2 hf.2, ?_⟩
      rw [reps_inV rx hf.1 h2 hf.2]
      exact po.ok R rep_bl
    · cases e
  · cases e
end DI

end

section
set_option Elab.async false
set_option linter.all false
set_option maxRecDepth 100000
set_option maxHeartbeats 4000000
/-! DI13: isinstance of the exception that is held, asked of a written tuple of own classes. -/
namespace DI
open PySem PySem.Spec PyProof.Rows L2
def tRefs (Cs : List Addr) : TA := fun _ H Q => Q (Cs.map V.ref) H
structure IsT (K : PySem.W.Frag) (mg : Str → Option Value) (cs : List Str) (tbl : Str → Option Bool) : Prop where
  gl : ∀ (i : Nat) c, cs[i]? = some c → mg c = some (.ref (He.ga K c))
  ex : ∀ d b D, tbl d = some b → mg d = some (.ref D) → ExcC K D ∧ PySem.W.kitAny K (.ref D) (cs.map fun c => .ref (He.ga K c)) = some b
section
variable {X : Cx} {es : List Expr} {c : Str} {C : Addr} {Cs : List Addr} {p : Pos}
theorem pr_nil : PA X [] (tRefs []) := ⟨fun pos pins s σ H Q I h => pa_nil.run pos pins s σ H Q I h⟩
theorem pr_cons (h : X.mg c = some (.ref C)) (r : PA X es (tRefs Cs)) (hg : Gl X c := by rfl) (hdb : (c == ("__debug__" : Str)) = false := by decide) (hs : starEach (.Name c p :: es) X.env = (false, eval (.Name c p) X.env) :: starEach es X.env := by rfl) : PA X (.Name c p :: es) (tRefs (C :: Cs)) :=
  (pa_cons (pe_glob (v := .ref C) hg h rfl hdb) r hs).imp fun σ H Q q => q
end
def rIsT (K : PySem.W.Frag) (D a : Addr) : List V → Hp → VK → Prop := fun xs H Q => ∃ (tp : Addr) (Cs : List Addr) (b : Bool), xs = [.ref a, .ref tp] ∧ SqT K H tp (Cs.map V.ref) ∧ PySem.W.kitAny K (.ref D) (Cs.map Value.ref) = some b ∧ Q (.bl b) H
theorem vals_refs : ∀ {Cs : List Addr} {its : List Value}, Vals (Cs.map V.ref) its → its = Cs.map Value.ref
  | [], its, h => by cases h; rfl
  | C :: Cs, its, h => by
    cases h with
    | cons r rr =>
      cases (show _ = Value.ref C from r)
      rw [List.map_cons, vals_refs rr]
theorem call_isT {X : Cx} {a D : Addr} {oe : Obj} {pn : List (Addr × Obj)} (C : ExcC X.K D) (hz : Zc (.ref D) none oe) (hf : ∃ vs, oe.data = .fields vs) : CallR (X.suite a ((a, oe) :: pn)) (.builtin "isinstance") (rIsT X.K D a) := by
  intro pins s σ H xs us Q I r h
  obtain ⟨tp, Cs, b, rfl, hq, e, q⟩ := h
  cases r with
  | cons rx rr =>
    cases rr with
    | cons rt rr =>
      cases rr
      cases rx
      cases rt
      obtain ⟨hget, _⟩ := I.pin (a, oe) (List.mem_append.mpr (.inl List.mem_cons_self))
      obtain ⟨vs, hv⟩ := hf
      have J : PySem.W.InstAt s.heap a oe D none := by
        obtain ⟨oc, od, oda, osl⟩ := oe
        obtain ⟨h1, h2⟩ := hz
        dsimp only at h1 h2 hv
        subst h1 h2 hv
        exact ⟨hget, rfl, rfl, trivial⟩
      obtain ⟨its, rv, ⟨o, h1, h2, n, h3⟩, _⟩ := I.tuple hq
      have hi := vals_refs rv
      subst hi
      obtain ⟨oc, od, oda, osl⟩ := o
      dsimp only at h2 h3
      subst h2 h3
      exact PySem.W.kia_tup (PySem.W.handS_kitx_exc C.hg C.hk C.hs C.hd C.ha C.hn C.ht C.hm) I.kIn J h1 e (fun z => nomatch z) fun tk => ⟨.bl b, H, I.kept (t' := tk) fun _ _ z => z, rfl, q⟩
section
variable {X : Cx} {a D : Addr} {oe : Obj} {pn : List (Addr × Obj)} {dn n : Str} {i : Nat} {cs : List Str} {es : List Expr} {tbl : Str → Option Bool} {p' p1 p2 pos : Pos} {W : WX} {x1 : Nat}
theorem de_isT (F : IsT X.K X.mg cs tbl) (hm : X.mg dn = some (.ref D)) (hz : Zc (.ref D) none oe) (hf : ∃ vs, oe.data = .fields vs) (hmi : X.mg "isinstance" = none) (hcl : cs.length ≤ 1000) (hp : PA (X.suite a ((a, oe) :: pn)) es (tRefs (cs.map (He.ga X.K)))) (hg : Gl X "isinstance" := by rfl)
    (hN : X.N[i]? = some n := by rfl) (hv : Vis X.env.scope n := by first | exact Or.inl rfl | exact Or.inr (Or.inl rfl) | exact Or.inr (Or.inr rfl)) (hd1 : (n == ("__debug__" : Str)) = false := by decide) (hd2 : (n == ("__classdict__" : Str)) = false := by decide)
    (he : starEach [.Name n p1, .Tuple es x1 p2] X.env = (false, eval (.Name n p1) X.env) :: starEach [.Tuple es x1 p2] X.env := by rfl) (hpl : (backTo pos (starEach [.Tuple es x1 p2] X.env)).any (·.1) = false := by rfl) (he2 : starEach [.Tuple es x1 p2] X.env = (false, eval (.Tuple es x1 p2) X.env) :: starEach [] X.env := by rfl) :
    DE (X.suite a ((a, oe) :: pn)) (some (a, i)) W (.Call (.Name "isinstance" p') [.Name n p1, .Tuple es x1 p2] [] pos) (eIsE i (tbl dn)) := by
  have nv : PE (X.suite a ((a, oe) :: pn)) (.Name n p1) _ := pe_var (i := i) hN hv hd1 hd2
  have cv : PE (X.suite a ((a, oe) :: pn)) (.Tuple es x1 p2) _ := pe_tup hp
  cases ht : tbl dn with
  | none =>
    refine ⟨fun pins s σ H Q I h => ?_⟩
    obtain ⟨q, M, r, o, R, L, e, po⟩ := h
    unfold eIsE at e
    split at e <;> cases e
  | some b =>
    obtain ⟨ec, kt⟩ := F.ex dn b D ht hm
    refine (pe_callB (X := X.suite a ((a, oe) :: pn)) (call_isT ec hz hf) hg hmi PyProof.Rows.boot_isinstance (pa_cons nv (pa_cons cv pa_nil he2) he) (he := he) (hpl := hpl)).imp ?_
    rintro σ H Q ⟨q, M, r, o, R, L, e, po⟩
    unfold eIsE at e
    split at e
    · rename_i hr
      cases e
      refine ⟨.ref a, L.ex a i rfl hr, ?_, fun tp htp => ⟨tp, cs.map (He.ga X.K), b, rfl, ?_, ?_, ?_⟩⟩
      · rw [List.length_map, List.length_map]
        exact line_eq (by omega)
      · exact SqT.of upd_same
      · rw [List.map_map]
        exact kt
      · exact po q _ _ (List.prefix_refl q) (Le.new htp) (R.other htp) rep_bl
    · cases e
end
/-! ### the head's part -/
def kitT (K : PySem.W.Frag) (x : Str) (cs : List Str) (b : Bool) : Bool := decide (PySem.W.kitAny K (.ref (He.ga K x)) (cs.map fun c => .ref (He.ga K c)) = some b)
theorem kitT_ok {K : PySem.W.Frag} {x : Str} {cs : List Str} {b : Bool} (h : kitT K x cs b = true) : PySem.W.kitAny K (.ref (He.ga K x)) (cs.map fun c => .ref (He.ga K c)) = some b := of_decide_eq_true h
theorem isT_of {K : PySem.W.Frag} {mg : Str → Option Value} {cs : List Str} {l : List (Str × Bool)} (h : ∀ c ∈ cs, mg c = some (.ref (He.ga K c))) (hl : ∀ p ∈ l, mg p.1 = some (.ref (He.ga K p.1)) ∧ ExcC K (He.ga K p.1) ∧ PySem.W.kitAny K (.ref (He.ga K p.1)) (cs.map fun c => .ref (He.ga K c)) = some p.2) : IsT K mg cs (tblOf l) := by
  refine ⟨fun i c e => h c (List.mem_of_getElem? e), fun d b D ht hm => ?_⟩
  obtain ⟨h1, h2⟩ := hl _ (tblOf_mem ht)
  rw [h1] at hm
  cases hm
  exact h2
end DI

end

section
set_option Elab.async false
set_option linter.all false
set_option maxRecDepth 100000
set_option maxHeartbeats 4000000
/-! DI14: a list so many times. -/
namespace DI
open PySem PySem.Spec PyProof.Rows L2
def repG : G2 := fun x y M => match x, y with
  | .ref i, .int k => (match M[i]? with
    | some (.lst ds) => if 0 ≤ k ∧ k ≤ 100000 ∧ ds.length * k.toNat ≤ 16777216 then some (.ok (.ref M.length) (M ++ [.lst (List.replicate k.toNat ds).flatten])) else none
    | _ => none)
  | _, _ => none
theorem reps_flat_rep {K : PySem.W.Frag} {p : List Addr} {H : Hp} {ds : List D} {vs : List V} (h : Reps K p H ds vs) : ∀ (n : Nat), Reps K p H (List.replicate n ds).flatten (List.replicate n vs).flatten
  | 0 => reps_nil
  | n + 1 => by
    rw [List.replicate_succ, List.replicate_succ, List.flatten_cons, List.flatten_cons]
    exact reps_app h (reps_flat_rep h n)
theorem od_rep {k : Kx} : OD k rRep repG := by
  intro p M H x y v u o Q W σ R rx ry e po
  unfold repG at e
  split at e
  · rename_i i j
    split at e
    · rename_i ds ho
      split at e
      · rename_i hk
        cases e
        obtain ⟨a, vs, rfl, ha, hh, r0⟩ := rep_lst R rx ho
        unfold Rep at ry
        subst ry
        refine ⟨a, j, vs, rfl, rfl, hh, by omega, by omega, ?_, po_lst R po (reps_flat_rep r0 _)⟩
        rw [← reps_len r0]
        exact line_eq hk.2.2
      · cases e
    · cases e
  · cases e
end DI

end

section
set_option Elab.async false
set_option linter.all false
set_option maxRecDepth 100000
set_option maxHeartbeats 4000000
/-! DI15: a try with several clauses that name the exception, all by one name. -/
namespace DI
open PySem PySem.Spec PyProof.Rows L2

/-- a clause: the class that it names, and what its suite does -/
structure Kl where
  c : Value
  ts : Addr → Value → Option Addr → TS
/-- what stands behind a suite: slot i is empty there -/
def emptied (i : Nat) (D : Ends) : Ends where
  nx := fun σ H => D.nx (σ.set i none) H
  rt := D.rt
  bk := fun σ H => D.bk (σ.set i none) H
  ct := fun σ H => D.ct (σ.set i none) H
/-- the first clause that takes it is the one -/
def picks (K : PySem.W.Frag) (i : Nat) (W : WX) (D : Ends) : List Kl → WX
  | [] => W
  | k :: l => fun cls d σ H =>
    (PySem.W.exmOne K cls k.c = some true ∧ ∀ a, H a = none → k.ts a cls d (emptied i D) (σ.set i (some (.ref a))) H)
    ∨ (PySem.W.exmOne K cls k.c = some false ∧ picks K i W D l cls d σ H)
/-- clauses as they stand in the text -/
inductive Klauses (X : Cx) (n : Str) : List ExceptHandler → List Kl → Prop
  | nil : Klauses X n [] []
  | cons {x : Str} {k : Kl} {b : Stmt} {bs : List Stmt} {p q : Pos} {hds : List ExceptHandler} {l : List Kl} (hc : Names X x k.c)
      (su : ∀ (a : Addr) (oe : Obj) (cls : Value) (d : Option Addr) (pn : List (Addr × Obj)), Zc cls d oe → (∃ vs, oe.data = .fields vs) → PSs (X.suite a ((a, oe) :: pn)) (b :: bs) (k.ts a cls d))
      (more : Klauses X n hds l) : Klauses X n (.ExceptHandler (some (.Name x p)) (some n) (b :: bs) q :: hds) (k :: l)

section
variable {X : Cx} {n : Str} {i : Nat} {W : WX} {D : Ends}
/-- an object with fields is no frame -/
theorem apart {B h : Heap} {l : List Env} {a : Addr} {Z : Obj → Prop} (fl : HandSPX.FlyingZ B l a Z h) : a ∉ frs l := fun hm => by
  obtain ⟨o, vs, e1, _, e2⟩ := fl.there
  obtain ⟨_, o', e3, no⟩ := fl.2.2.1.mem hm
  exact no vs ((Option.some.inj (e3.symm.trans e1)) ▸ e2)
/-- the class's name is read -/
theorem name_read {pins : List (Addr × Obj)} {s : Shared} {σ : L2.St} {H : Hp} {x : Str} {c : Value} {p : Pos} {Q : Value → Shared → Prop} {E : Value → Shared → Prop} (I : Inv X pins σ H s) (hc : Names X x c) (q : Q c s) : wpAny (model X.prog X.w) X.A (eval (.Name x p) X.env) Q E s := by
  rcases hc with ⟨h1, h2, h3 | ⟨h4, h5, h6⟩⟩
  · exact ld_glob I h1 h3 q h2
  · exact ld_blt I h1 h4 h5 q h6 h2
theorem klauses_go (hs : X.stack = X.env :: X.outer) (hf : X.env.frame = some X.env.locals) (hN : X.N.Nodup) (hi : X.N[i]? = some n) (hln : X.env.kindOf n = some .local) (tk : Takes X W)
    {a : Addr} {B : Heap} {s0 : Shared} {pins : List (Addr × Obj)} {σ : L2.St} {H : Hp} {cls : Value} {d : Option Addr}
    (J : Inv X pins σ H s0) (old : ∀ b o, s0.heap.get? b = some o → b ∉ frs X.stack → B.get? b = some o) (na : H a = none) {hds : List ExceptHandler} {l : List Kl} (ks : Klauses X n hds l) :
    ∀ {s : Shared}, HandSPX.FlyingZ B (X.env :: X.outer) a (Zc cls d) s.heap → s0.heap.UpToSlots s.heap → s.os = s0.os → AllBare s.gens → picks X.K i W D l cls d σ H →
      wpAny (model X.prog X.w) X.A (handleBy (.ref a) X.env hds) (SP X pins D) X.xe s := by
  induction ks with
  | nil =>
    intro s fl up os ag w
    refine PySem.PX.no_clauseZ hf fl fun h' held up' => tk _ _ ?_
    refine ⟨a, B, s0, pins, σ, H, cls, d, rfl, J, old, up.trans up', ?_, na, os, ag, w⟩
    rw [hs]
    exact .inr (.inr held)
  | @cons x k b bs p q hds l hc su more ih =>
    intro s fl up os ag w
    have I : Inv X pins σ H s := J.landed old fl.1 up os ag
    have nl : a ≠ X.env.locals := fun e => apart fl (List.mem_filterMap.mpr ⟨_, List.mem_cons_self, e ▸ hf⟩)
    have nf : a ∉ X.fs := fun e => apart fl (List.mem_filterMap.mpr (by
      obtain ⟨v, h1, h2⟩ := List.mem_filterMap.mp e
      exact ⟨v, List.mem_cons_of_mem _ h1, h2⟩))
    have test : ∀ {Q : Value → Shared → Prop} {E : Value → Shared → Prop}, Q k.c s → wpAny (model X.prog X.w) (X.A.mark (some (.ref a))) (eval (.Name x p) X.env) Q E s := fun {Q E} hq => by
      obtain ⟨o, vs, e1, _, e2⟩ := fl.there
      exact name_read (X := X.suite a ((a, o) :: (X.pn ++ pins))) (I.suite e1 e2 na nl nf) hc hq
    rcases w with ⟨yes, w⟩ | ⟨no, w⟩
    · refine PySem.PX.clause_asZ I.kIn (fun o z => z.1) fl yes test fun h' fl' up' => ?_
      obtain ⟨o, vs, e1, z, e2⟩ := PySem.PX.FlyingZ.there fl'
      have I' : Inv X pins σ H { s with heap := h' } := J.landed old fl'.1 (up.trans up') os ag
      refine store_ok (X := X.suite a ((a, o) :: (X.pn ++ pins))) (v := .ref a) (I'.suite e1 e2 na nl nf) hN hi (.inl hln) rfl (fun s1 I1 => ?_) (.inr hln)
      refine wpAny_mono ((su a o cls d (X.pn ++ pins) z ⟨vs, e2⟩).run [] s1 _ H _ I1 (w a na)) ?_ (fun _ _ f => f.elim)
      intro f s2 h2
      cases f with
      | ret u =>
        obtain ⟨v, σ2, H2, I2, r, po⟩ := h2
        exact gone_ok (I2.unsuite J.ok) hN hi hln fun s3 I3 => ⟨v, _, H2, I3, r, po⟩
      | next =>
        obtain ⟨σ2, H2, I2, po⟩ := h2
        exact gone_ok (I2.unsuite J.ok) hN hi hln fun s3 I3 => ⟨_, H2, I3, po⟩
      | brk =>
        obtain ⟨σ2, H2, I2, po⟩ := h2
        exact gone_ok (I2.unsuite J.ok) hN hi hln fun s3 I3 => ⟨_, H2, I3, po⟩
      | cont =>
        obtain ⟨σ2, H2, I2, po⟩ := h2
        exact gone_ok (I2.unsuite J.ok) hN hi hln fun s3 I3 => ⟨_, H2, I3, po⟩
    · exact PySem.PX.clause_passZ I.kIn (fun o z => z.1) fl no test (ih fl up os ag w)
theorem ps_tryN {body : List Stmt} {h₀ : ExceptHandler} {hds : List ExceptHandler} {l : List Kl} {pos : Pos} {tb : WX → TS} (hs : X.stack = X.env :: X.outer) (hf : X.env.frame = some X.env.locals) (hN : X.N.Nodup) (hi : X.N[i]? = some n) (hln : X.env.kindOf n = some .local) (tk : Takes X W)
    (hb : ∀ (W : WX) (pn : List (Addr × Obj)) (xe : Value → Shared → Prop), Takes (X.tr pn xe) W → PassesOwn (model X.prog X.w) X.A X.env xe → PSs (X.tr pn xe) body (tb W))
    (ks : Klauses X n (h₀ :: hds) l) : PS X (.Try body (h₀ :: hds) [] [] pos) (fun D σ H => tb (picks X.K i W D l) D σ H) := by
  constructor
  intro pins s σ H D I h
  refine wpAny_Try_except (wpAny_mono ((hb (picks X.K i W D l) (X.pn ++ pins) _ ?_ PassesOwn.looking).run [] s σ H D (I.toTry _) h) ?_ (fun _ _ e => e))
  · rintro u s1 ⟨a, B, s0, pins1, σ1, H1, cls, d, rfl, J, old, up, sky, na, os, ag, w⟩
    have frames : X.A.frames = some (X.env :: X.outer) := I.ok.frames.trans (congrArg some hs)
    have sky1 : Sky B (X.env :: X.outer) a (Zc cls d) X.env.locals s1.heap := hs ▸ sky
    exact Sky.land Zc.steady frames hf sky1 fun h' fl up' => klauses_go hs hf hN hi hln tk (J.ofTry I.ok) old na ks (s := { s1 with heap := h' }) fl (up.trans up') os ag w
  · intro f s1 h1
    cases f with
    | ret u => exact let ⟨v, σ1, H1, I1, r, po⟩ := h1; ⟨v, σ1, H1, I1.ofTry I.ok, r, po⟩
    | next => exact let ⟨σ1, H1, I1, po⟩ := h1; wpAny_execs_nil ⟨σ1, H1, I1.ofTry I.ok, po⟩
    | brk => exact let ⟨σ1, H1, I1, po⟩ := h1; ⟨σ1, H1, I1.ofTry I.ok, po⟩
    | cont => exact let ⟨σ1, H1, I1, po⟩ := h1; ⟨σ1, H1, I1.ofTry I.ok, po⟩
end
/-! ### the mirror -/
/-- behind a suite: the name is gone -/
def endN (i : Nat) : Option (Fl × Hd) → Option (Fl × Hd)
  | some (.nx r, M) => some (.nx (clr i r), M)
  | some (.bk r, M) => some (.bk (clr i r), M)
  | some (.ct r, M) => some (.ct (clr i r), M)
  | some (.rt d, M) => some (.rt d, M)
  | _ => none
def sHand (i : Nat) : List ((Str → Option Bool) × (Str → SF)) → Str → SF
  | [], c => fun r M => some (.xx c r, M)
  | (sub, su) :: l, c => fun r M => match sub c with
    | some true => endN i (su c (clr i r) M)
    | some false => sHand i l c r M
    | none => none
/-- try: body; except C1 as x: ..; except C2 as x: .. (slot i) -/
def sTryN (i : Nat) (l : List ((Str → Option Bool) × (Str → SF))) (body : SF) : SF := fun r M => match body r M with
  | some (.xx c r1, M1) => sHand i l c r1 M1
  | o => o
inductive HdN (X : Cx) (n : Str) (i : Nat) : List ExceptHandler → List ((Str → Option Bool) × (Str → SF)) → Prop
  | nil : HdN X n i [] []
  | cons {x : Str} {sub : Str → Option Bool} {gs : Str → SF} {b : Stmt} {bs : List Stmt} {p q : Pos} {hds : List ExceptHandler} {l : List ((Str → Option Bool) × (Str → SF))} (F : Hnd X.K X.mg x sub)
      (su : ∀ (a : Addr) (oe : Obj) (dn : Str) (D : Addr) (pn : List (Addr × Obj)), X.mg dn = some (.ref D) → Zc (.ref D) none oe → (∃ vs, oe.data = .fields vs) → DSs (X.suite a ((a, oe) :: pn)) (some (a, i)) W0 (b :: bs) (gs dn))
      (more : HdN X n i hds l) (hg : Gl X x := by rfl) (hdb : (x == ("__debug__" : Str)) = false := by decide) : HdN X n i (.ExceptHandler (some (.Name x p)) (some n) (b :: bs) q :: hds) ((sub, gs) :: l)
section
variable {X : Cx} {n : Str} {i : Nat} {W : WX}
theorem HdN.klauses {hds : List ExceptHandler} {l : List ((Str → Option Bool) × (Str → SF))} (h : HdN X n i hds l) : ∃ kl, Klauses X n hds kl ∧ ∀ {W : WX} {p : List Addr} {H : Hp} {σ : L2.St} {Dn : Ends} {c : Str} {r : Ev} {M : Hd} {o : Fl × Hd} {C : Addr},
    Rl X.K X.mg p M H → Sl X.K none p H r σ → sHand i l c r M = some o → PoS ⟨X.K, X.mg, none⟩ W p H o Dn → X.mg c = some (.ref C) → picks X.K i W Dn kl (.ref C) none σ H := by
  induction h with
  | nil => exact ⟨[], .nil, fun R L e po hC => by cases e; exact po _ _ _ _ (List.prefix_refl _) (Le.refl _) R L hC⟩
  | @cons x sub gs b bs p q hds l F su more hg hdb ih =>
    obtain ⟨v, h1, h2⟩ := F.ok hg hdb
    obtain ⟨kl, ks, hk⟩ := ih
    refine ⟨⟨v, fun a cls d Dn σ H => ∃ dn D, cls = .ref D ∧ d = none ∧ X.mg dn = some (.ref D) ∧ gS ⟨X.K, X.mg, some (a, i)⟩ W0 (gs dn) Dn σ H⟩ :: kl, .cons h1 (fun a oe cls d pn hz hv => ⟨fun pins s σ H Dn I h => ?_⟩) ks, ?_⟩
    · obtain ⟨dn, D, rfl, rfl, hm, h⟩ := h
      exact (su a oe dn D pn hm hz hv).run pins s σ H Dn I h
    · intro W p H σ Dn c r M o C R L e po hC
      unfold sHand at e
      cases hsb : sub c with
      | none => rw [hsb] at e; cases e
      | some b =>
        rw [hsb] at e
        cases b with
        | false => exact .inr ⟨h2 c false C hsb hC, hk R L e po hC⟩
        | true =>
          refine .inl ⟨h2 c true C hsb hC, fun a na => ⟨c, C, rfl, rfl, hC, ?_⟩⟩
          dsimp only at e
          cases es : gs c (clr i r) M with
          | none => rw [es] at e; cases e
          | some w =>
            obtain ⟨fl, M2⟩ := w
            refine ⟨p, M, clr i r, (fl, M2), R, L.hold i a, es, ?_⟩
            rw [es] at e
            cases fl with
            | rt d => cases e; exact fun p2 H2 v hp hl R2 q => po p2 H2 v hp hl R2 q
            | nx r2 => cases e; exact fun p2 H2 σ2 hp hl R2 L2 => po p2 H2 _ hp hl R2 (L2.free i)
            | bk r2 => cases e; exact fun p2 H2 σ2 hp hl R2 L2 => po p2 H2 _ hp hl R2 (L2.free i)
            | ct r2 => cases e; exact fun p2 H2 σ2 hp hl R2 L2 => po p2 H2 _ hp hl R2 (L2.free i)
            | xx c2 r2 => cases e
theorem ds_tryN (i : Nat) {body : List Stmt} {h₀ : ExceptHandler} {hds : List ExceptHandler} {l : List ((Str → Option Bool) × (Str → SF))} {pos : Pos} {g : SF} (hN : X.N.Nodup) (tk : Takes X W)
    (hb : ∀ (W : WX) (pn : List (Addr × Obj)) (xe : Value → Shared → Prop), Takes (X.tr pn xe) W → PassesOwn (model X.prog X.w) X.A X.env xe → DSs (X.tr pn xe) none W body g)
    (hh : HdN X n i (h₀ :: hds) l) (hs : X.stack = X.env :: X.outer := by rfl) (hf : X.env.frame = some X.env.locals := by rfl) (hi : X.N[i]? = some n := by rfl) (hln : X.env.kindOf n = some .local := by rfl) :
    DS X none W (.Try body (h₀ :: hds) [] [] pos) (sTryN i l g) := by
  obtain ⟨kl, ks, hk⟩ := hh.klauses
  refine (ps_tryN (tb := fun W => gS (Cx.k X none) W g) hs hf hN hi hln tk hb ks).imp ?_
  rintro Dn σ H ⟨p, M, r, o, R, L, e, po⟩
  unfold sTryN at e
  cases eb : g r M with
  | none => rw [eb] at e; cases e
  | some w =>
    obtain ⟨fl, M1⟩ := w
    refine ⟨p, M, r, (fl, M1), R, L, eb, ?_⟩
    rw [eb] at e
    cases fl with
    | nx r1 => cases e; exact po
    | bk r1 => cases e; exact po
    | ct r1 => cases e; exact po
    | rt d => cases e; exact po
    | xx c1 r1 => exact fun p' H' σ' C hp hl R' L' hC => hk R' L' e (po.up hp hl) hC
end
end DI

end

section
set_option Elab.async false
set_option linter.all false
set_option maxRecDepth 100000
set_option maxHeartbeats 4000000
/-! DI16: own classes: fields read and stored, methods called, instances made. -/
namespace DI
open PySem PySem.Spec PyProof.Rows L2

/-- a class of the module without slots, properties or hooks; fl: names that no class of it has -/
structure ClsK (K : PySem.W.Frag) (mg : Str → Option Value) (c : Str) (fl : List Str) : Prop where
  ex : ∃ C, mg c = some (.ref C) ∧ Cls K C ∧ ∀ f ∈ fl, NoAttr K C f
theorem fld_get {K : PySem.W.Frag} {p : List Addr} {H : Hp} {f : Str} {d : D} : ∀ {fs : List (Str × D)} {ws : List (Str × V)}, Paired (fun (x : Str × D) (y : Str × V) => y.1 = x.1 ∧ Rep K p H x.2 y.2) fs ws → fs.lookup f = some d → ∃ v, ws.lookup f = some v ∧ Rep K p H d v
  | _, _, .nil, h => nomatch h
  | (x, e) :: fs, (y, v) :: ws, .cons h t, q => by
    obtain ⟨h1, h2⟩ := h
    have h1 : y = x := h1
    subst h1
    rw [List.lookup_cons] at q ⊢
    by_cases hf : f == y
    · rw [hf] at q ⊢
      cases q
      exact ⟨v, rfl, h2⟩
    · rw [Bool.not_eq_true] at hf
      rw [hf] at q ⊢
      exact fld_get t q
theorem fld_none {K : PySem.W.Frag} {p : List Addr} {H : Hp} {f : Str} : ∀ {fs : List (Str × D)} {ws : List (Str × V)}, Paired (fun (x : Str × D) (y : Str × V) => y.1 = x.1 ∧ Rep K p H x.2 y.2) fs ws → fs.lookup f = none → ws.lookup f = none
  | _, _, .nil, h => rfl
  | (x, e) :: fs, (y, v) :: ws, .cons h t, q => by
    obtain ⟨h1, h2⟩ := h
    have h1 : y = x := h1
    subst h1
    rw [List.lookup_cons] at q ⊢
    by_cases hf : f == y
    · rw [hf] at q
      cases q
    · rw [Bool.not_eq_true] at hf
      rw [hf] at q ⊢
      exact fld_none t q
/-- a field set -/
def putFD (f : Str) (d : D) : List (Str × D) → List (Str × D)
  | [] => [(f, d)]
  | (g, x) :: r => if g = f then (g, d) :: r else (g, x) :: putFD f d r
theorem fld_put {K : PySem.W.Frag} {p : List Addr} {H : Hp} {f : Str} {d : D} {v : V} (hd : Rep K p H d v) : ∀ {fs : List (Str × D)} {ws : List (Str × V)}, Paired (fun (x : Str × D) (y : Str × V) => y.1 = x.1 ∧ Rep K p H x.2 y.2) fs ws →
    Paired (fun (x : Str × D) (y : Str × V) => y.1 = x.1 ∧ Rep K p H x.2 y.2) (putFD f d fs) (putF f v ws)
  | _, _, .nil => .cons ⟨rfl, hd⟩ .nil
  | (x, e) :: fs, (y, u) :: ws, .cons h t => by
    obtain ⟨h1, h2⟩ := h
    have h1 : y = x := h1
    subst h1
    unfold putFD putF
    by_cases hf : y = f
    · rw [if_pos hf, if_pos hf]
      exact .cons ⟨rfl, hd⟩ t
    · rw [if_neg hf, if_neg hf]
      exact .cons ⟨rfl, h2⟩ (fld_put hd t)
theorem paired_len {α β : Type} {F : α → β → Prop} : ∀ {l : List α} {m : List β}, Paired F l m → l.length = m.length
  | _, _, .nil => rfl
  | _, _, .cons _ t => congrArg (· + 1) (paired_len t)
/-- what stands behind an instance -/
theorem rep_ins {K : PySem.W.Frag} {mg : Str → Option Value} {p : List Addr} {M : Hd} {H : Hp} {i : Nat} {v : V} {c : Str} {fs : List (Str × D)} {C : Addr} (R : Rl K mg p M H) (h : Rep K p H (.ref i) v) (e : M[i]? = some (.ins c fs)) (hc : mg c = some (.ref C)) :
    ∃ a dx ws, v = .ref a ∧ p[i]? = some a ∧ H a = some (.ins C dx ws) ∧ Paired (fun (x : Str × D) (y : Str × V) => y.1 = x.1 ∧ Rep K p H x.2 y.2) fs ws := by
  unfold Rep at h
  obtain ⟨a, ha, rfl⟩ := h
  obtain ⟨b, hb, C', dx, ws, m, e1, e2⟩ := R.ob i _ e
  rw [ha] at hb
  cases hb
  rw [hc] at m
  cases m
  exact ⟨a, dx, ws, rfl, ha, e1, e2⟩
/-- o.f -/
def fldG (c f : Str) : D → Hd → Option (Rs D) := fun x M => match x with
  | .ref i => (match M[i]? with
    | some (.ins c' fs) => if c' = c then pr M (fs.lookup f) else none
    | _ => none)
  | _ => none
/-- o.f = e -/
def sFld (c f : Str) (fo fe : EF) : SF := fun r M => exB (fe r M) r fun d M1 => exB (fo r M1) r fun x M2 => match x with
  | .ref i => (match M2[i]? with
    | some (.ins c' fs) => if c' = c ∧ fs.length < 1000 then some (.nx r, M2.set i (.ins c (putFD f d fs))) else none
    | _ => none)
  | _ => none
section
variable {X : Cx} {z : Zx} {W : WX} {a o e : Expr} {fa fo fe : EF} {c f : Str} {fl : List Str} {pos pos' : Pos}
theorem de_fld (F : ClsK X.K X.mg c fl) (hf : f ∈ fl) (ha : DE X z W a fa) (hb : attributeBase a f X.env (eval a X.env) = eval a X.env := by rfl) : DE X z W (.Attribute a f pos) (eUn (fldG c f) fa) := by
  obtain ⟨C, h1, h2, h3⟩ := F.ex
  refine (pe_fld ha hb).imp ?_
  rintro σ H Q ⟨p, M, ρ, o, R, L, e, po⟩
  refine gE_bnd R L e po fun d M1 p1 H1 v R1 L1 hl1 hp1 q1 e1 po1 => ?_
  unfold fldG at e1
  cases d with
  | ref i =>
    dsimp only at e1
    split at e1
    · rename_i c' fs hi
      split at e1
      · rename_i hcc
        subst hcc
        obtain ⟨a, dx, ws, rfl, _, g2, g3⟩ := rep_ins R1 q1 hi h1
        cases hl : fs.lookup f with
        | none => rw [hl] at e1; cases e1
        | some y =>
          rw [hl] at e1
          cases e1
          obtain ⟨w, w1, w2⟩ := fld_get g3 hl
          exact ⟨a, C, dx, ws, w, rfl, g2, h2, h3 f hf, w1, po1.ok R1 w2⟩
      · cases e1
    · cases e1
  | _ => cases e1
theorem ds_fld (F : ClsK X.K X.mg c fl) (hf : f ∈ fl) (ho : DE X z W o fo) (he : DE X z W e fe) (hs : swapsWith e (some (.Attribute o f pos')) pos.line X.env = pure false := by rfl) : DS X z W (.Assign [.Attribute o f pos'] e pos) (sFld c f fo fe) := by
  obtain ⟨C, h1, h2, h3⟩ := F.ex
  refine (ps_fld ho he hs).imp ?_
  rintro Dn σ H ⟨p, M, ρ, oo, R, L, e, po⟩
  unfold sFld at e
  refine gE_exB R L e po fun d M1 p1 H1 v R1 L1 hl1 hp1 q1 e1 po1 => ?_
  refine gE_exB R1 L1 e1 po1 fun d2 M2 p2 H2 v2 R2 L2 hl2 hp2 q2 e2 po2 => ?_
  cases d2 with
  | ref i =>
    dsimp only at e2
    split at e2
    · rename_i c' fs hi
      split at e2
      · rename_i hcc
        obtain ⟨rfl, hlen⟩ := hcc
        obtain ⟨a, dx, ws, rfl, g1, g2, g3⟩ := rep_ins R2 q2 hi h1
        cases e2
        have q1' := Rep.up hp2 hl2 _ q1
        obtain ⟨R3, hl3⟩ := R2.put (u := .ins C dx (putF f v ws)) (o := .ins c' (putFD f d fs)) g1 fun hl => ⟨C, dx, _, h1, upd_same, paired_mono (fun x y q => ⟨q.1, Rep.up (List.prefix_refl _) hl _ q.2⟩) (fld_put q1' g3)⟩
        exact ⟨a, C, dx, ws, rfl, g2, h2, h3 f hf, by rw [← paired_len g3]; exact hlen, po2 p2 _ σ (List.prefix_refl p2) hl3 R3 (L2.up (List.prefix_refl p2) hl3)⟩
      · cases e2
    · cases e2
  | _ => cases e2
end
/-! ### methods, new instances -/
section
variable {X : Cx} {k : Nat} {C f : Addr} {fd : FuncData} {ps : List Str} {sp : Sp} {E : L2.St → XK} {x m : Str} {p pos apos : Pos} {e o : Expr} {es : List Expr} {ta : TE} {t : TA}
/-- o.m(e, ..), what is raised is wished for at the caller's slots -/
theorem pe_methAt {pl : Sem Bool} (he : PE X o ta) (cl : Cls X.K C) (hm : Meth X.K C m f) (F : FnOk X.prog X.w X.K X.mg X.base (L2.CX X.prog X.w) k f fd ps sp) (hr : Room k X.A) (hb : Binds X.K fd ps []) (hx : ∀ σ, PassesAt (L2.CX X.prog X.w) X σ (E σ)) (ha : PA X (e :: es) t)
    (hst : starEach (e :: es) X.env = (false, eval e X.env) :: starEach es X.env) (hpl : (backTo pos (starEach es X.env)).any (·.1) = false)
    (ht : eval (.Call (.Attribute o m apos) (e :: es) [] pos) X.env = (do
      let ov ← eval o X.env
      standAt apos.atName
      let (f, first) ← holding [ov] (getMethod ov m pl)
      callWith pos f first (backTo pos (starEach (e :: es) X.env)) (backToKw pos (keywordEach [] X.env)))) :
    PE X (.Call (.Attribute o m apos) (e :: es) [] pos) (fun σ H Q => tMeth C m sp [] (E σ) ta t σ H Q) := by
  constructor
  intro pins s σ H Q I h
  refine PySem.W.methodCall_KW (pl := pl) (thn (he.run pins s σ H _ I h) ?_) ht
  rintro u s1 ⟨_, H1, I1, ru, a, dx, fs, rfl, there, free, q⟩
  cases ru
  refine getmeth_ok I1 there cl hm free (PySem.W.callWith_K (first := [.ref a]) (h₀ := X.base) I.ok.mod.kin hm.kp (thn (ha.run pos pins s1 σ H1 _ I1 q) ?_) hst hpl)
  rintro us s2 ⟨vs, H2, I2, r, q2⟩
  exact ⟨I2.kIn, run_fnSD (us := .ref a :: us) (vs := .ref a :: vs) F hr hb .nil (hx σ) I2 (.cons rfl r) q2⟩
theorem pe_methAt0 {pl : Sem Bool} (he : PE X o ta) (cl : Cls X.K C) (hm : Meth X.K C m f) (F : FnOk X.prog X.w X.K X.mg X.base (L2.CX X.prog X.w) k f fd ps sp) (hr : Room k X.A) (hb : Binds X.K fd ps []) (hx : ∀ σ, PassesAt (L2.CX X.prog X.w) X σ (E σ))
    (ht : eval (.Call (.Attribute o m apos) [] [] pos) X.env = (do
      let ov ← eval o X.env
      standAt apos.atName
      let (f, first) ← holding [ov] (getMethod ov m pl)
      callWith pos f first (backTo pos (starEach [] X.env)) (backToKw pos (keywordEach [] X.env)))) :
    PE X (.Call (.Attribute o m apos) [] [] pos) (fun σ H Q => tMeth C m sp [] (E σ) ta tNil σ H Q) := by
  constructor
  intro pins s σ H Q I h
  refine PySem.W.methodCall_KW (pl := pl) (thn (he.run pins s σ H _ I h) ?_) ht
  rintro u s1 ⟨_, H1, I1, ru, a, dx, fs, rfl, there, free, q⟩
  cases ru
  refine getmeth_ok I1 there cl hm free (PySem.W.callWith_K0 (first := [.ref a]) I1.kIn hm.kp ?_)
  exact run_fnSD (us := [.ref a]) (vs := [.ref a]) F hr hb .nil (hx σ) I1 (.cons rfl .nil) q
/-- C(..): the instance and its dict are laid, __init__ runs -/
theorem makeAt {pins : List (Addr × Obj)} {σ : L2.St} {H : Hp} {s : Shared} {Q : VK} {us : List Value} {vs : List V} (M : Mk X.K C f) (F : FnOk X.prog X.w X.K X.mg X.base (L2.CX X.prog X.w) k f fd ps sp) (hr : Room (k + 1) X.A) (hb : Binds X.K fd ps []) (hx : PassesAt (L2.CX X.prog X.w) X σ (E σ))
    (I : Inv X pins σ H s) (r : Vals vs us) (h : ∀ x dx, H x = none → H dx = none → dx ≠ x → sp (.ref x :: (vs ++ [])) (upd (upd H dx (.own x)) x (.ins C dx [])) (fun v H2 => v = .non ∧ Q (.ref x) H2) (E σ)) :
    wpAny (model X.prog X.w) X.A (call (.ref C) us) (EP X pins σ Q) X.xe s := by
  have new := Inv.made (C := C) I
  generalize hn : s.heap.objs.size = d at new
  have wish := h (d + 1) d (I.hok.fresh (by rw [hn]; exact Nat.le_succ d)) (I.hok.fresh (by rw [hn]; exact Nat.le_refl d)) (Nat.ne_of_lt (Nat.lt_succ_self d))
  rw [List.append_nil] at wish
  have args : Vals (V.ref (d + 1) :: vs) (Value.ref (d + 1) :: us) := .cons rfl r
  have few : (Value.ref (d + 1) :: us).length = ps.length := by rw [← args.length]; exact F.len _ _ _ _ wish
  have inner := F.run (X.A.under (.builtin "type.__call__" ⟨.ref C :: us, []⟩)) X.stack _ _ ⟨Value.ref (d + 1) :: us, []⟩ (Value.ref (d + 1) :: us) _ _ (E σ) (hr.make C us []) (new.env0.make C us []) (by
    have := hb _ (Value.ref (d + 1) :: us) new.kIn (by rw [List.append_nil]; exact few)
    rw [List.append_nil] at this
    exact this) args wish
  refine wpAny_call (make_map (f := f) I.kIn M.makes M.init (beq_iff_eq.mp M.fn) ?_)
  rw [hn]
  refine codeAny_mono inner ?_
  intro res s' back
  cases res with
  | error ex => exact hx pins _ _ ex s' new back
  | ok fl =>
    cases fl with
    | ret u =>
      obtain ⟨v, H3, I3, rv, hv, done⟩ := new.after back
      subst hv
      exact ⟨rv, .ref (d + 1), H3, I3, rfl, done⟩
    | next => exact back.elim
    | brk => exact back.elim
    | cont => exact back.elim
theorem pe_makeAt (M : Mk X.K C f) (F : FnOk X.prog X.w X.K X.mg X.base (L2.CX X.prog X.w) k f fd ps sp) (hr : Room (k + 1) X.A) (hg : Gl X x) (hm : X.mg x = some (.ref C)) (hb : Binds X.K fd ps []) (hx : ∀ σ, PassesAt (L2.CX X.prog X.w) X σ (E σ))
    (ha : PA X (e :: es) t) (hdb : (x == ("__debug__" : Str)) = false) (he : starEach (e :: es) X.env = (false, eval e X.env) :: starEach es X.env) (hpl : (backTo pos (starEach es X.env)).any (·.1) = false) :
    PE X (.Call (.Name x p) (e :: es) [] pos) (fun σ H Q => tMake C sp [] (E σ) t σ H Q) := by
  constructor
  intro pins s σ H Q I h
  refine wpAny_Call_Name_kw (ld_glob I hg hm (PySem.W.callWith_K (h₀ := X.base) I.ok.mod.kin M.kp (thn (ha.run pos pins s σ H _ I h) ?_) he hpl) hdb)
  rintro us s1 ⟨vs, H1, I1, r, q⟩
  exact ⟨I1.kIn, makeAt M F hr hb (hx σ) I1 r q⟩
end
/-! ### their mirrors -/
/-- a method of a class of the module, by its mirror -/
structure Mth (P : Program) (w : World) (K : PySem.W.Frag) (mg : Str → Option Value) (base : Heap) (k : Nat) (c m : Str) (n : Nat) (mm : List D → Hd → Option (Rs D)) : Prop where
  ln : ∀ ds M o, mm ds M = some o → ds.length = n
  ex : ∃ C f fd ps, mg c = some (.ref C) ∧ Cls K C ∧ Meth K C m f ∧ Binds K fd ps [] ∧ FnOk P w K mg base (L2.CX P w) k f fd ps (spD K mg n mm)
theorem Mth.mono {P : Program} {w : World} {K : PySem.W.Frag} {mg : Str → Option Value} {base : Heap} {j k n : Nat} {c m : Str} {mm : List D → Hd → Option (Rs D)} (h : Mth P w K mg base j c m n mm) (hk : j ≤ k) : Mth P w K mg base k c m n mm := by
  obtain ⟨C, f, fd, ps, h1, h2, h3, h4, h5⟩ := h.ex
  exact ⟨h.ln, C, f, fd, ps, h1, h2, h3, h4, h5.mono hk⟩
/-- a class of the module that is made with __init__, by __init__'s mirror -/
structure MkI (P : Program) (w : World) (K : PySem.W.Frag) (mg : Str → Option Value) (base : Heap) (k : Nat) (c : Str) (n : Nat) (mm : List D → Hd → Option (Rs D)) : Prop where
  ln : ∀ ds M o, mm ds M = some o → ds.length = n
  ex : ∃ C f fd ps, mg c = some (.ref C) ∧ Mk K C f ∧ Binds K fd ps [] ∧ FnOk P w K mg base (L2.CX P w) k f fd ps (spD K mg n mm)
theorem MkI.mono {P : Program} {w : World} {K : PySem.W.Frag} {mg : Str → Option Value} {base : Heap} {j k n : Nat} {c : Str} {mm : List D → Hd → Option (Rs D)} (h : MkI P w K mg base j c n mm) (hk : j ≤ k) : MkI P w K mg base k c n mm := by
  obtain ⟨C, f, fd, ps, h1, h2, h3, h4⟩ := h.ex
  exact ⟨h.ln, C, f, fd, ps, h1, h2, h3, h4.mono hk⟩
def eMeth (c m : Str) (mm : List D → Hd → Option (Rs D)) (fa : EF) (g : AF) : EF := fun r M => bnd (fa r M) fun x M1 => match x with
  | .ref i => (match M1[i]? with
    | some (.ins c' fs) => if c' = c ∧ fs.lookup m = none then bnd (g r M1) fun ds M2 => mm (.ref i :: ds) M2 else none
    | _ => none)
  | _ => none
def eMake (c : Str) (mm : List D → Hd → Option (Rs D)) (g : AF) : EF := fun r M => bnd (g r M) fun ds M1 => match mm (.ref M1.length :: ds) (M1 ++ [.ins c []]) with
  | some (.ok .non M2) => some (.ok (.ref M1.length) M2)
  | some (.er c2 M2) => some (.er c2 M2)
  | _ => none
section
variable {X : Cx} {z : Zx} {W : WX} {a e : Expr} {es : List Expr} {fa : EF} {g : AF} {c m : Str} {k n : Nat} {mm : List D → Hd → Option (Rs D)} {p' ap pos : Pos}
theorem de_meth {pl : Sem Bool} (F : Mth X.prog X.w X.K X.mg X.base k c m n mm) (tk : Takes X W) (hr : Room k X.A) (ha : DE X z W a fa) (hg : DA X z W (e :: es) g)
    (hst : starEach (e :: es) X.env = (false, eval e X.env) :: starEach es X.env := by rfl) (hpl : (backTo pos (starEach es X.env)).any (·.1) = false := by rfl)
    (ht : eval (.Call (.Attribute a m ap) (e :: es) [] pos) X.env = (do
      let ov ← eval a X.env
      standAt ap.atName
      let (f, first) ← holding [ov] (getMethod ov m pl)
      callWith pos f first (backTo pos (starEach (e :: es) X.env)) (backToKw pos (keywordEach [] X.env))) := by rfl) : DE X z W (.Call (.Attribute a m ap) (e :: es) [] pos) (eMeth c m mm fa g) := by
  obtain ⟨C, f, fd, ps, h1, h2, h3, h4, h5⟩ := F.ex
  refine (pe_methAt ha h2 h3 h5 hr h4 (E := fun σ cls d H' => W cls d σ H') (fun σ => passAt tk σ) hg hst hpl ht).imp ?_
  rintro σ H Q ⟨p, M, ρ, o, R, L, e, po⟩
  refine gE_bnd R L e po fun d M1 p1 H1 v R1 L1 hl1 hp1 q1 e1 po1 => ?_
  cases d with
  | ref i =>
    dsimp only at e1
    split at e1
    · rename_i c' fs hi
      split at e1
      · rename_i hcc
        obtain ⟨rfl, hno⟩ := hcc
        obtain ⟨a, dx, ws, rfl, _, g2, g3⟩ := rep_ins R1 q1 hi h1
        refine ⟨a, dx, ws, rfl, g2, fld_none g3 hno, ?_⟩
        refine gE_bnd R1 L1 e1 po1 fun ds M2 p2 H2 vs R2 L2 hl2 hp2 q2 e2 po2 => ?_
        rw [List.append_nil]
        exact sp_of R2 (reps_cons (Rep.up hp2 hl2 _ q1) q2) (F.ln _ _ _ e2) e2 po2
      · cases e1
    · cases e1
  | _ => cases e1
theorem de_meth0 {pl : Sem Bool} (F : Mth X.prog X.w X.K X.mg X.base k c m n mm) (tk : Takes X W) (hr : Room k X.A) (ha : DE X z W a fa)
    (ht : eval (.Call (.Attribute a m ap) [] [] pos) X.env = (do
      let ov ← eval a X.env
      standAt ap.atName
      let (f, first) ← holding [ov] (getMethod ov m pl)
      callWith pos f first (backTo pos (starEach [] X.env)) (backToKw pos (keywordEach [] X.env))) := by rfl) : DE X z W (.Call (.Attribute a m ap) [] [] pos) (eMeth c m mm fa aNil) := by
  obtain ⟨C, f, fd, ps, h1, h2, h3, h4, h5⟩ := F.ex
  refine (pe_methAt0 ha h2 h3 h5 hr h4 (E := fun σ cls d H' => W cls d σ H') (fun σ => passAt tk σ) ht).imp ?_
  rintro σ H Q ⟨p, M, ρ, o, R, L, e, po⟩
  refine gE_bnd R L e po fun d M1 p1 H1 v R1 L1 hl1 hp1 q1 e1 po1 => ?_
  cases d with
  | ref i =>
    dsimp only at e1
    split at e1
    · rename_i c' fs hi
      split at e1
      · rename_i hcc
        obtain ⟨rfl, hno⟩ := hcc
        obtain ⟨a, dx, ws, rfl, _, g2, g3⟩ := rep_ins R1 q1 hi h1
        refine ⟨a, dx, ws, rfl, g2, fld_none g3 hno, ?_⟩
        unfold aNil at e1
        rw [bnd_ok] at e1
        exact sp_of R1 (reps_cons q1 reps_nil) (F.ln _ _ _ e1) e1 po1
      · cases e1
    · cases e1
  | _ => cases e1
theorem de_make (F : MkI X.prog X.w X.K X.mg X.base k c n mm) (tk : Takes X W) (hr : Room (k + 1) X.A) (hg : DA X z W (e :: es) g) (hgl : Gl X c := by rfl) (hdb : (c == ("__debug__" : Str)) = false := by decide)
    (he : starEach (e :: es) X.env = (false, eval e X.env) :: starEach es X.env := by rfl) (hpl : (backTo pos (starEach es X.env)).any (·.1) = false := by rfl) : DE X z W (.Call (.Name c p') (e :: es) [] pos) (eMake c mm g) := by
  obtain ⟨C, f, fd, ps, h1, h2, h3, h4⟩ := F.ex
  refine (pe_makeAt h2 h4 hr hgl h1 h3 (E := fun σ cls d H' => W cls d σ H') (fun σ => passAt tk σ) hg hdb he hpl).imp ?_
  rintro σ H Q ⟨p, M, ρ, o, R, L, e, po⟩
  refine gE_bnd R L e po fun ds M1 p1 H1 vs R1 L1 hl1 hp1 q1 e1 po1 => ?_
  intro x dx hx hdx ne
  have hx2 : upd H1 dx (.own x) x = none := by rw [upd_ne (Ne.symm ne)]; exact hx
  have le1 : Le H1 (upd H1 dx (.own x)) := Le.new hdx
  have le2 : Le (upd H1 dx (.own x)) (upd (upd H1 dx (.own x)) x (.ins C dx [])) := Le.new hx2
  have R2 : Rl X.K X.mg (p1 ++ [x]) (M1 ++ [.ins c []]) (upd (upd H1 dx (.own x)) x (.ins C dx [])) := (R1.other hdx).new hx2 ⟨C, dx, [], h1, upd_same, .nil⟩
  have at_ : ∀ {p2 : List Addr}, p1 ++ [x] <+: p2 → p2[M1.length]? = some x := fun {p2} h => by
    obtain ⟨t, rfl⟩ := h
    rw [← R1.len, List.append_assoc, List.getElem?_append_right (Nat.le_refl _), Nat.sub_self]
    rfl
  have q2 : Reps X.K (p1 ++ [x]) (upd (upd H1 dx (.own x)) x (.ins C dx [])) (.ref M1.length :: ds) (.ref x :: vs) := reps_cons (rep_ref (at_ (List.prefix_refl _))) (Reps.up (List.prefix_append p1 [x]) (le1.trans le2) _ q1)
  rw [List.append_nil]
  cases em : mm (.ref M1.length :: ds) (M1 ++ [.ins c []]) with
  | none => rw [em] at e1; cases e1
  | some o2 =>
    refine ⟨p1 ++ [x], _, _, o2, R2, q2, F.ln _ _ _ em, em, ?_⟩
    rw [em] at e1
    cases o2 with
    | er c2 M2 =>
      cases e1
      exact fun p2 H2 C2 hp hl R3 hC => po1 p2 H2 C2 ((List.prefix_append p1 [x]).trans hp) ((le1.trans le2).trans hl) R3 hC
    | ok d M2 =>
      cases d with
      | non =>
        cases e1
        intro p2 H2 v hp hl R3 hv
        unfold Rep at hv
        exact ⟨hv, po1 p2 H2 (.ref x) ((List.prefix_append p1 [x]).trans hp) ((le1.trans le2).trans hl) R3 (rep_ref (at_ hp))⟩
      | _ => cases e1
end
end DI

end

section
set_option Elab.async false
set_option linter.all false
set_option maxRecDepth 100000
set_option maxHeartbeats 4000000
/-! DI17: {"a": x, ..} and d["a"]. -/
namespace DI
open PySem PySem.Spec PyProof.Rows L2

/-- d[k], d of text keys -/
def dgetG : G2 := fun x y M => match x, y with
  | .ref i, .str s => (match M[i]? with
    | some (.dic kvs) => pr M (kvs.lookup s)
    | _ => none)
  | _, _ => none
theorem dic_get {K : PySem.W.Frag} {p : List Addr} {H : Hp} {s : Str} {d : D} : ∀ {kvs : List (Str × D)} {ws : List (Key × V)}, Paired (fun (x : Str × D) (y : Key × V) => y.1 = Sum.inr x.1 ∧ Rep K p H x.2 y.2) kvs ws → kvs.lookup s = some d → ∃ v, valV ws (Sum.inr s) = some v ∧ Rep K p H d v
  | _, _, .nil, h => nomatch h
  | (x, e) :: kvs, (y, v) :: ws, .cons h t, q => by
    obtain ⟨h1, h2⟩ := h
    have h1 : y = Sum.inr x := h1
    subst h1
    rw [List.lookup_cons] at q
    by_cases hf : s == x
    · rw [hf] at q
      cases q
      exact ⟨v, valV_pos (p := (Sum.inr x, v)) (by rw [eq_of_beq hf]), h2⟩
    · rw [Bool.not_eq_true] at hf
      rw [hf] at q
      obtain ⟨u, u1, u2⟩ := dic_get t q
      refine ⟨u, ?_, u2⟩
      rw [valV_neg (p := (Sum.inr x, v)) (fun e => by
        have : x = s := Sum.inr.inj e
        rw [this, beq_self_eq_true] at hf
        cases hf)]
      exact u1
section
variable {X : Cx} {z : Zx} {W : WX} {a b : Expr} {fa fb : EF} {pos : Pos}
theorem de_dget (hu : X.A.units + 1 < cLine) (ha : DE X z W a fa) (hb : DE X z W b fb) (hs : NoSl b := by exact fun _ _ => rfl) : DE X z W (.Subscript a b pos) (eOp dgetG fa fb) := by
  refine (pe_dget hu ha hb hs).imp ?_
  rintro σ H Q ⟨p, M, ρ, o, R, L, e, po⟩
  refine gE_bnd R L e po fun d M1 p1 H1 v R1 L1 hl1 hp1 q1 e1 po1 => ?_
  refine gE_bnd R1 L1 e1 po1 fun d2 M2 p2 H2 u R2 L2 hl2 hp2 q2 e2 po2 => ?_
  unfold dgetG at e2
  split at e2
  · rename_i i s
    split at e2
    · rename_i kvs hi
      have q1 := Rep.up hp2 hl2 _ q1
      unfold Rep at q1 q2
      obtain ⟨x, hx, rfl⟩ := q1
      obtain ⟨y, hy, ws, w1, w2⟩ := R2.ob i _ hi
      rw [hx] at hy
      cases hy
      subst q2
      cases hl : kvs.lookup s with
      | none => rw [hl] at e2; cases e2
      | some dv =>
        rw [hl] at e2
        cases e2
        obtain ⟨t, t1, t2⟩ := dic_get w2 hl
        have g := DGet.k (k := Sum.inr s) w1
        rw [t1] at g
        exact ⟨x, t, rfl, g, po2.ok R2 t2⟩
    · cases e2
  · cases e2
end
/-- pairs of a display -/
def DP (X : Cx) (z : Zx) (W : WX) (pos : Pos) (keys : List (Option Expr)) (values : List Expr) (ks : List Str) (g : AF) : Prop :=
  ∃ trs, PPs X pos keys values trs ∧ ∀ σ H (Q : List (V × V) → Hp → Prop), gE (Cx.k X z) W (rA (Cx.k X z)) g σ H (fun vs H' => Q ((ks.zip vs).map fun kv => (V.str kv.1, kv.2)) H') → tPairs trs σ H Q
section
variable {X : Cx} {z : Zx} {W : WX} {pos p : Pos} {keys : List (Option Expr)} {values : List Expr} {ks : List Str} {g : AF} {fa : EF} {v : Expr} {x : Str} {j : Nat}
theorem dp_nil : DP X z W pos [] [] [] aNil := by
  refine ⟨[], pps_nil, ?_⟩
  rintro σ H Q ⟨p, M, ρ, o, R, L, e, po⟩
  cases e
  exact po p H [] (List.prefix_refl _) (Le.refl _) R reps_nil
theorem dp_cons (hv : DE X z W v fa) (hr : DP X z W pos keys values ks g) : DP X z W pos (some (.Constant (.str x) j p) :: keys) (v :: values) (x :: ks) (aCons fa g) := by
  obtain ⟨trs, h1, h2⟩ := hr
  refine ⟨_, pps_cons pe_str hv h1, ?_⟩
  rintro σ H Q ⟨p, M, ρ, o, R, L, e, po⟩
  show gE (Cx.k X z) W (rD (Cx.k X z)) fa σ H _
  unfold aCons at e
  refine gE_bnd R L e po fun d M1 p1 H1 v R1 L1 hl1 hp1 q1 e1 po1 => ?_
  refine h2 σ H1 _ (gE_bnd R1 L1 e1 po1 fun ds M2 p2 H2 vs R2 L2 hl2 hp2 q2 e2 po2 => ?_)
  cases e2
  exact po2 p2 H2 (v :: vs) (List.prefix_refl _) (Le.refl _) R2 (reps_cons (Rep.up hp2 hl2 _ q1) q2)
end
def eDic (ks : List Str) (g : AF) : EF := fun r M => bnd (g r (M ++ [.dic []])) fun ds M1 =>
  match M1[M.length]? with
  | some (.dic []) => if ds.length = ks.length ∧ ks.Nodup ∧ ks.length ≤ 15 then some (.ok (.ref M.length) (M1.set M.length (.dic (ks.zip ds)))) else none
  | _ => none
theorem merge_new : ∀ (l acc : List (Key × V)), (l.map (·.1)).Nodup → (∀ x ∈ l, ∀ y ∈ acc, y.1 ≠ x.1) → mergeK acc l = acc ++ l
  | [], acc, _, _ => by rw [List.append_nil]; rfl
  | x :: l, acc, hn, hd => by
    have e : putK acc x.1 x.2 = acc ++ [x] := by
      unfold putK
      rw [if_neg]
      intro h
      obtain ⟨y, hy, e⟩ := List.any_eq_true.mp h
      exact hd x List.mem_cons_self y hy (of_decide_eq_true e)
    have hn' : x.1 ∉ l.map (·.1) ∧ (l.map (·.1)).Nodup := List.nodup_cons.mp hn
    show mergeK (putK acc x.1 x.2) l = _
    rw [e, merge_new l (acc ++ [x]) hn'.2 (fun u hu y hy => ?_), List.append_assoc]
    · rfl
    · rcases List.mem_append.mp hy with hy | hy
      · exact hd u (List.mem_cons_of_mem _ hu) y hy
      · rw [List.mem_singleton] at hy
        subst hy
        intro q
        exact hn'.1 (by rw [q]; exact List.mem_map_of_mem hu)
theorem PoE.up' {k : Kx} {W : WX} {p p1 : List Addr} {H H1 : Hp} {σ : L2.St} {o : Rs D} {Q : VK} (h : PoE k W (rD k) p H σ o Q) (hp : p <+: p1) (hl : Le H H1) : PoE k W (rD k) p1 H1 σ o Q := by
  cases o with
  | ok d M => exact fun p' H' v a b c e => h p' H' v (hp.trans a) (hl.trans b) c e
  | er c M => exact fun p' H' C a b e f => h p' H' C (hp.trans a) (hl.trans b) e f
theorem zip_pairs {K : PySem.W.Frag} {p : List Addr} {H : Hp} : ∀ {ks : List Str} {ds : List D} {vs : List V}, Reps K p H ds vs → Paired (fun (x : Str × D) (y : Key × V) => y.1 = Sum.inr x.1 ∧ Rep K p H x.2 y.2) (ks.zip ds) ((ks.zip vs).map fun kv => (Sum.inr kv.1, kv.2))
  | [], ds, vs, _ => .nil
  | k :: ks, [], vs, h => by
    unfold Reps at h
    subst h
    exact .nil
  | k :: ks, d :: ds, vs, h => by
    unfold Reps at h
    obtain ⟨v, ws, rfl, h1, h2⟩ := h
    exact .cons ⟨rfl, h1⟩ (zip_pairs h2)
section
variable {X : Cx} {z : Zx} {W : WX} {pos : Pos} {keys : List (Option Expr)} {values : List Expr} {ks : List Str} {g : AF}
theorem de_dic (h : DP X z W pos keys values ks g) (hall : keys.all (·.isSome) = true := by rfl) (hl : keys.length = values.length := by rfl) (h0 : keys ≠ [] := by exact fun h => nomatch h) (h15 : keys.length ≤ 15 := by decide) : DE X z W (.Dict keys values pos) (eDic ks g) := by
  obtain ⟨trs, h1, h2⟩ := h
  refine (pe_disp h1 hall hl h0 h15).imp ?_
  rintro σ H Q ⟨p, M, ρ, o, R, L, e, po⟩
  intro a ha
  have R1 : Rl X.K X.mg (p ++ [a]) (M ++ [.dic []]) (upd H a (.dK [])) := R.new ha ⟨[], upd_same, .nil⟩
  have hp : p <+: p ++ [a] := List.prefix_append p [a]
  have hl : Le H (upd H a (.dK [])) := Le.new ha
  unfold eDic at e
  refine h2 σ _ _ (gE_bnd R1 (L.up hp hl) e (po.up' hp hl) fun ds M2 p2 H2 vs R2 L2 hl2 hp2 q2 e2 po2 => ?_)
  split at e2
  · rename_i hM
    split at e2
    · rename_i hc
      obtain ⟨hlen, hnd, h16⟩ := hc
      have at_ : p2[M.length]? = some a := by
        obtain ⟨t, rfl⟩ := hp2
        rw [← R.len, List.append_assoc, List.getElem?_append_right (Nat.le_refl _), Nat.sub_self]
        rfl
      obtain ⟨b, hb, ws, w1, w2⟩ := R2.ob _ _ hM
      rw [at_] at hb
      cases hb
      cases w2
      cases e2
      have hvl : vs.length = ks.length := by rw [← hlen, reps_len q2]
      have hz : (ks.zip vs).length = ks.length := by rw [List.length_zip, hvl, Nat.min_self]
      refine ⟨w1, (ks.zip vs).map fun kv => (Sum.inr kv.1, kv.2), ?_, by rw [List.length_map, hz]; exact h16, ?_⟩
      · rw [List.map_map]
        rfl
      · rw [merge_new _ [] ?_ (fun x hx y hy => nomatch hy), List.nil_append]
        · obtain ⟨R3, hl3⟩ := R2.put (u := .dK ((ks.zip vs).map fun kv => (Sum.inr kv.1, kv.2))) (o := .dic (ks.zip ds)) at_ fun hl => ⟨_, upd_same, paired_mono (fun x y q => ⟨q.1, Rep.up (List.prefix_refl _) hl _ q.2⟩) (zip_pairs q2)⟩
          exact po2 p2 _ (.ref a) (List.prefix_refl _) hl3 R3 (rep_ref at_)
        · rw [List.map_map]
          have e3 : (ks.zip vs).map ((fun x : Key × V => x.1) ∘ fun kv : Str × V => ((Sum.inr kv.1 : Key), kv.2)) = ((ks.zip vs).map Prod.fst).map fun x => (Sum.inr x : Key) := by
            rw [List.map_map]
            rfl
          rw [e3, List.map_fst_zip (by omega)]
          exact List.Pairwise.map _ (fun x y h e => h (Sum.inr.inj e)) hnd
    · cases e2
  · cases e2
end
end DI

end

section
set_option Elab.async false
set_option linter.all false
set_option maxRecDepth 100000
set_option maxHeartbeats 4000000
/-! DI18: len(o), -o, o + p of own classes. -/
namespace DI
open PySem PySem.Spec PyProof.Rows L2

section
variable {X : Cx} {k : Nat} {C f a b dx dy : Addr} {fd : FuncData} {ps : List Str} {sp : Sp} {E : L2.St → XK} {pins : List (Addr × Obj)} {σ : L2.St} {H : Hp} {s : Shared} {fs gs : List (Str × V)} {m : Str} {A : Around}
theorem run_fnAt {Q : VK} {us : List Value} {vs : List V} (F : FnOk X.prog X.w X.K X.mg X.base (L2.CX X.prog X.w) k f fd ps sp) (hr : Room k A) (e0 : Env0 X.prog X.w X.K X.mg X.base A X.stack s H) (hb : Binds X.K fd ps []) (hx : PassesAt (L2.CX X.prog X.w) X σ (E σ)) (I : Inv X pins σ H s) (r : Vals vs us) (h : sp vs H Q (E σ)) :
    wpAny (model X.prog X.w) A (call (.ref f) us) (EP X pins σ Q) X.xe s := by
  have few : us.length = ps.length := by rw [← r.length]; exact F.len _ _ _ _ h
  have bd := hb s us I.kIn (by rw [List.append_nil]; exact few)
  rw [List.append_nil] at bd
  refine wpAny_call (codeAny_mono (F.run A X.stack s H ⟨us, []⟩ us vs Q (E σ) hr e0 bd r h) ?_)
  intro res s' back
  cases res with
  | error ex => exact hx pins H s ex s' I back
  | ok fl =>
    cases fl with
    | ret u => exact I.after back
    | next => exact back.elim
    | brk => exact back.elim
    | cont => exact back.elim
theorem inst_of (I : Inv X pins σ H s) (e : H a = some (.ins C dx fs)) : ∃ od, PySem.W.InstAt s.heap a (PySem.W.instObj C dx) C od := by
  obtain ⟨mA, O, _⟩ := ins_get I.hok e
  obtain ⟨od, J, _⟩ := O.look
  exact ⟨od, J⟩
theorem special_ok {Q : Option Value → Shared → Prop} {Ee : Value → Shared → Prop} {us : List Value} (I : Inv X pins σ H s) (e : H a = some (.ins C dx fs)) (hm : Meth X.K C m f)
    (h : wpAny (model X.prog X.w) A (call (.ref f) (.ref a :: us)) (fun v => Q (some v)) Ee s) : wpAny (model X.prog X.w) A (callSpecial? (.ref a) m us) Q Ee s := by
  obtain ⟨od, J⟩ := inst_of I e
  exact PySem.W.special_fn I.kIn J hm.at_ (beq_iff_eq.mp hm.fn) h
theorem neg_own {Q : Value → Shared → Prop} {Ee : Value → Shared → Prop} (I : Inv X pins σ H s) (e : H a = some (.ins C dx fs)) (hm : Meth X.K C "__neg__" f)
    (h : wpAny (model X.prog X.w) A (call (.ref f) [.ref a]) Q Ee s) : wpAny (model X.prog X.w) A (unaryOp .USub (.ref a)) Q Ee s := by
  have one : wpAny (model X.prog X.w) A (callSpecial? (.ref a) "__neg__") (fun r s' => ∃ v, r = some v ∧ Q v s') Ee s := special_ok I e hm (wpAny_mono h (fun v _ q => ⟨v, rfl, q⟩) fun _ _ q => q)
  unfold unaryOp
  refine wpAny_holding (wpAny_bind (wpAny_mono one (fun r s' q => ?_) fun _ _ q => q))
  obtain ⟨v, rfl, q⟩ := q
  exact wpAny_pure q
theorem len_own {Q : Value → Shared → Prop} {Ee : Value → Shared → Prop} (I : Inv X pins σ H s) (e : H a = some (.ins C dx fs)) (hm : Meth X.K C "__len__" f)
    (h : wpAny (model X.prog X.w) A.in1 (call (.ref f) [.ref a]) (fun v s' => ∃ (n : Int) (t : Tok), v = .int n t ∧ 0 ≤ n ∧ n < 2 ^ 63 ∧ Q (.int n s'.toks) { s' with toks := s'.toks + 1 }) Ee s) : wpAny (model X.prog X.w) A (call (.builtin "len") [.ref a]) Q Ee s := by
  have fit : wpAny (model X.prog X.w) A.in1 (callSpecial? (.ref a) (Str.ofString "__len__")) (fun r s' => ∃ (n : Int) (t : Tok), r = some (.int n t) ∧ 0 ≤ n ∧ n < 2 ^ 63 ∧ Q (.int n s'.toks) { s' with toks := s'.toks + 1 }) Ee s := by
    refine special_ok I e hm (wpAny_mono h (fun v _ q => ?_) fun _ _ q => q)
    obtain ⟨n, t, rfl, q⟩ := q
    exact ⟨n, t, rfl, q⟩
  refine Calls.call_function_entry (args := [.ref a]) kind_len plain_len entry_len (args_len1 _) ?_
  unfold Builtin.«len»
  refine wpAny_bind (m := oneArg "len" _) (wpAny_pure (wpAny_bind (wpAny_mono fit (fun r s' q => ?_) fun _ _ q => q)))
  obtain ⟨n, t, rfl, h0, h1, q⟩ := q
  refine wpAny_bind (wpAny_holding (wpAny_pure (wpAny_bind (wpAny_letGo ?_))))
  show wpAny _ _ (if n < 0 then _ else _) _ _ _
  rw [if_neg (by omega : ¬ n < 0)]
  show wpAny _ _ (if n ≥ 2 ^ 63 then _ else _) _ _ _
  rw [if_neg (by omega : ¬ n ≥ 2 ^ 63)]
  exact wpAny_bind (wpAny_mkInt (wpAny_pure ⟨_, rfl, q⟩))
theorem add_own {Q : Value → Shared → Prop} {Ee : Value → Shared → Prop} (I : Inv X pins σ H s) (ea : H a = some (.ins C dx fs)) (eb : H b = some (.ins C dy gs)) (hm : Meth X.K C "__add__" f) (hc : PySem.W.selfFirst X.K C = true)
    (h : wpAny (model X.prog X.w) A (call (.ref f) [.ref a, .ref b]) (PySem.W.CmpBack Q) Ee s) : wpAny (model X.prog X.w) A (binaryOp .Add (.ref a) (.ref b)) Q Ee s := by
  obtain ⟨od, J⟩ := inst_of I ea
  obtain ⟨oe, J2⟩ := inst_of I eb
  obtain ⟨cd, rest, hcd, hmro⟩ := PySem.W.ksp_first hc
  have K0 := I.kIn
  have one := PySem.W.ksp_try (name := "__add__") K0 J hm.at_ hm.fn h
  obtain ⟨hh, g, d, tt, os⟩ := s
  have T1 : PySem.W.Looks (model X.prog X.w) hh (typeOf (.ref a)) (.ref C) := J.type
  have T2 : PySem.W.Looks (model X.prog X.w) hh (typeOf (.ref b)) (.ref C) := J2.type
  have T3 : PySem.W.Looks (model X.prog X.w) hh (fillsNumberSlot (.ref C) "add") true := PySem.W.fills_K K0 hcd hmro hm.at_
  unfold binaryOp
  refine wpAny_holding (wpAny_bind ?_)
  show wpAny _ _ (binaryOp1 "add" _ _) _ _ _
  unfold binaryOp1
  refine wpAny_bind (T1.at (wpAny_bind (T2.at (wpAny_bind (T3.at ?_)))))
  simp only [beq_self_eq_true, if_true]
  ksp_lk
  refine wpAny_mono one (fun r s' hr' => ?_) fun _ _ q => q
  obtain ⟨v, rfl, q⟩ := hr'
  ksp_lk
  exact q
end
/-! ### their mirrors -/
def negO (c : Str) (mm : List D → Hd → Option (Rs D)) : D → Hd → Option (Rs D) := fun x M => match x with
  | .ref i => (match M[i]? with
    | some (.ins c' fs) => if c' = c then mm [.ref i] M else none
    | _ => none)
  | _ => none
def lenO (c : Str) (mm : List D → Hd → Option (Rs D)) : D → Hd → Option (Rs D) := fun x M => match x with
  | .ref i => (match M[i]? with
    | some (.ins c' fs) => if c' = c then bnd (mm [.ref i] M) fun d M1 => (match d with
      | .int n => if 0 ≤ n ∧ n < 2 ^ 63 then some (.ok (.int n) M1) else none
      | _ => none) else none
    | _ => none)
  | _ => none
def addO (c : Str) (mm : List D → Hd → Option (Rs D)) : G2 := fun x y M => match x, y with
  | .ref i, .ref j => (match M[i]?, M[j]? with
    | some (.ins c1 fs), some (.ins c2 gs) => if c1 = c ∧ c2 = c then mm [.ref i, .ref j] M else none
    | _, _ => none)
  | _, _ => none
/-- a class that stands first in its own order of search -/
def SelfF (K : PySem.W.Frag) (mg : Str → Option Value) (c : Str) : Prop := ∀ C, mg c = some (.ref C) → PySem.W.selfFirst K C = true
def selfB (K : PySem.W.Frag) (c : Str) : Bool := PySem.W.selfFirst K (He.ga K c)
theorem selfF_of {K : PySem.W.Frag} {mg : Str → Option Value} {c : Str} (g : mg c = some (.ref (He.ga K c))) (h : selfB K c = true) : SelfF K mg c := fun C e => by
  rw [g] at e
  cases e
  exact h
section
variable {X : Cx} {z : Zx} {W : WX} {a b e : Expr} {fa fb : EF} {c : Str} {k n : Nat} {mm : List D → Hd → Option (Rs D)} {p' pos : Pos}
theorem de_negO (F : Mth X.prog X.w X.K X.mg X.base k c "__neg__" n mm) (tk : Takes X W) (hr : Room k X.A) (ha : DE X z W a fa) : DE X z W (.UnaryOp .USub a pos) (eUn (negO c mm) fa) := by
  obtain ⟨C, f, fd, ps, h1, h2, h3, h4, h5⟩ := F.ex
  constructor
  intro pins s σ H Q I g
  refine UnaryOp_ (thn (ha.run pins s σ H (fun v H1 => ∃ a dx fs, v = .ref a ∧ H1 a = some (.ins C dx fs) ∧ spD X.K X.mg n mm [.ref a] H1 Q (fun cls d H' => W cls d σ H')) I ?_) ?_)
  · obtain ⟨p, M, ρ, o, R, L, e, po⟩ := g
    refine gE_bnd R L e po fun d M1 p1 H1 v R1 L1 hl1 hp1 q1 e1 po1 => ?_
    unfold negO at e1
    cases d with
    | ref i =>
      dsimp only at e1
      split at e1
      · rename_i c' fs hi
        split at e1
        · rename_i hcc
          subst hcc
          obtain ⟨a, dx, ws, rfl, _, g2, g3⟩ := rep_ins R1 q1 hi h1
          exact ⟨a, dx, ws, rfl, g2, sp_of R1 (reps_cons q1 reps_nil) (F.ln _ _ _ e1) e1 po1⟩
        · cases e1
      · cases e1
    | _ => cases e1
  · rintro u s1 ⟨_, H1, I1, ru, a, dx, fs, rfl, there, q⟩
    cases ru
    exact neg_own I1 there h3 (run_fnAt h5 hr I1.env0 h4 (passAt tk σ) I1 (show Vals [V.ref a] [Value.ref a] from .cons rfl .nil) q)
theorem de_addO (F : Mth X.prog X.w X.K X.mg X.base k c "__add__" n mm) (S : SelfF X.K X.mg c) (tk : Takes X W) (hr : Room k X.A) (ha : DE X z W a fa) (hb : DE X z W b fb) : DE X z W (.BinOp a .Add b pos) (eOp (addO c mm) fa fb) := by
  obtain ⟨C, f, fd, ps, h1, h2, h3, h4, h5⟩ := F.ex
  constructor
  intro pins s σ H Q I g
  have g' : gE (Cx.k X z) W (rD (Cx.k X z)) fa σ H fun x H1 => gE (Cx.k X z) W (rD (Cx.k X z)) fb σ H1 fun y H2 => ∃ a b dx dy fs gs, x = .ref a ∧ y = .ref b ∧ H2 a = some (.ins C dx fs) ∧ H2 b = some (.ins C dy gs) ∧ spD X.K X.mg n mm [.ref a, .ref b] H2 Q (fun cls d H' => W cls d σ H') := by
    obtain ⟨p, M, ρ, o, R, L, e, po⟩ := g
    refine gE_bnd R L e po fun d M1 p1 H1 v R1 L1 hl1 hp1 q1 e1 po1 => ?_
    refine gE_bnd R1 L1 e1 po1 fun d2 M2 p2 H2 v2 R2 L2 hl2 hp2 q2 e2 po2 => ?_
    have q1' := Rep.up hp2 hl2 _ q1
    unfold addO at e2
    cases d with
    | ref i =>
      cases d2 with
      | ref j =>
        dsimp only at e2
        split at e2
        · rename_i c1 fs c2 gs hi hj
          split at e2
          · rename_i hcc
            obtain ⟨rfl, rfl⟩ := hcc
            obtain ⟨a, dx, ws, rfl, _, g2, g3⟩ := rep_ins R2 q1' hi h1
            obtain ⟨b, dy, ws2, rfl, _, k2, k3⟩ := rep_ins R2 q2 hj h1
            exact ⟨a, b, dx, dy, ws, ws2, rfl, rfl, g2, k2, sp_of R2 (reps_cons q1' (reps_cons q2 reps_nil)) (F.ln _ _ _ e2) e2 po2⟩
          · cases e2
        · cases e2
      | _ => cases e2
    | _ => cases e2
  refine wpAny_BinOp (binT ha hb I g' fun v u s2 x y H2 I2 rx ry q => ?_)
  obtain ⟨a, b, dx, dy, fs, gs, rfl, rfl, ea, eb, q⟩ := q
  cases rx
  cases ry
  refine add_own I2 ea eb h3 (S C h1) (wpAny_mono (run_fnAt h5 hr I2.env0 h4 (passAt tk σ) I2 (show Vals [V.ref a, V.ref b] [Value.ref a, Value.ref b] from .cons rfl (.cons rfl .nil)) q) ?_ fun _ _ q => q)
  rintro w s3 ⟨y, H3, I3, ry, hq⟩
  have : ∃ u, w = u ∧ u ≠ .notImplemented := ⟨w, rfl, fun e => by
    subst e
    cases y <;> first | exact nomatch ry | (obtain ⟨_, q⟩ := ry; exact nomatch q)⟩
  obtain ⟨u, rfl, hu⟩ := this
  cases w <;> first | exact (hu rfl).elim | exact ⟨y, H3, I3, ry, hq⟩
theorem de_lenO (F : Mth X.prog X.w X.K X.mg X.base k c "__len__" n mm) (tk : Takes X W) (hr : Room (k + 1) X.A) (ha : DE X z W e fa) (hm : X.mg "len" = none) (hg : Gl X "len" := by rfl) (he : starEach [e] X.env = (false, eval e X.env) :: starEach [] X.env := by rfl) : DE X z W (.Call (.Name "len" p') [e] [] pos) (eUn (lenO c mm) fa) := by
  obtain ⟨C, f, fd, ps, h1, h2, h3, h4, h5⟩ := F.ex
  constructor
  intro pins s σ H Q I g
  have g' : gE (Cx.k X z) W (rD (Cx.k X z)) fa σ H fun v H1 => ∃ w, [v] = [w] ∧ ∃ a dx fs, w = .ref a ∧ H1 a = some (.ins C dx fs) ∧ spD X.K X.mg n mm [.ref a] H1 (fun v H2 => ∃ n : Int, v = .int n ∧ 0 ≤ n ∧ n < 2 ^ 63 ∧ Q v H2) (fun cls d H' => W cls d σ H') := by
    obtain ⟨p, M, ρ, o, R, L, e, po⟩ := g
    refine gE_bnd R L e po fun d M1 p1 H1 v R1 L1 hl1 hp1 q1 e1 po1 => ?_
    unfold lenO at e1
    cases d with
    | ref i =>
      dsimp only at e1
      split at e1
      · rename_i c' fs hi
        split at e1
        · rename_i hcc
          subst hcc
          obtain ⟨a, dx, ws, rfl, _, g2, g3⟩ := rep_ins R1 q1 hi h1
          refine ⟨.ref a, rfl, a, dx, ws, rfl, g2, ?_⟩
          cases em : mm [.ref i] M1 with
          | none => rw [em] at e1; cases e1
          | some o2 =>
            rw [em] at e1
            refine ⟨p1, M1, _, o2, R1, reps_cons q1 reps_nil, F.ln _ _ _ em, em, ?_⟩
            cases o2 with
            | er c2 M2 =>
              cases e1
              exact po1
            | ok d M2 =>
              rw [bnd_ok] at e1
              cases d with
              | int n =>
                dsimp only at e1
                split at e1
                · rename_i hn
                  cases e1
                  intro p2 H2 v hp hl R3 hv
                  have hv' : v = .int n := by unfold Rep at hv; exact hv
                  exact ⟨n, hv', hn.1, hn.2, po1 p2 H2 v hp hl R3 hv⟩
                · cases e1
              | _ => cases e1
        · cases e1
      · cases e1
    | _ => cases e1
  refine wpAny_Call_Name_kw (ld_blt I hg hm PySem.boot_len ?_ (by decide) (by decide))
  refine PyProof.Rows.callWith_builtin1 (thn ((pa_cons ha pa_nil he).run pos pins s σ H (fun vs H1 => ∃ w, vs = [w] ∧ ∃ a dx fs, w = .ref a ∧ H1 a = some (.ins C dx fs) ∧ spD X.K X.mg n mm [.ref a] H1 (fun v H2 => ∃ n : Int, v = .int n ∧ 0 ≤ n ∧ n < 2 ^ 63 ∧ Q v H2) (fun cls d H' => W cls d σ H')) I g') ?_) he rfl
  · rintro us s1 ⟨vs, H1, I1, r, v, rfl, a, dx, fs, rfl, there, q⟩
    obtain ⟨u, rfl, ru⟩ := vals1 r
    cases ru
    refine len_own I1 there h3 (wpAny_mono (run_fnAt h5 hr.in1 I1.env0.in1 h4 (passAt tk σ) I1 (show Vals [V.ref a] [Value.ref a] from .cons rfl .nil) q) ?_ fun _ _ q => q)
    rintro w s3 ⟨y, H3, I3, ry, n, rfl, n0, n1, hq⟩
    obtain ⟨t, rfl⟩ := ry
    exact ⟨n, t, rfl, n0, n1, .int n, H3, I3.tok _, ⟨_, rfl⟩, hq⟩
end
end DI

end

section
set_option Elab.async false
set_option linter.all false
set_option maxRecDepth 100000
set_option maxHeartbeats 4000000
/-! DI19: max of three ints, d[k] = v of dicts with text keys, either of two mirrors. -/
namespace DI
open PySem PySem.Spec PyProof.Rows L2

/-! ### either mirror -/
def Or2 (f f1 f2 : EF) : Prop := ∀ r M o, f r M = some o → f1 r M = some o ∨ f2 r M = some o
theorem de_two {X : Cx} {z : Zx} {W : WX} {e : Expr} {f f1 f2 : EF} (h1 : DE X z W e f1) (h2 : DE X z W e f2) (h : Or2 f f1 f2) : DE X z W e f := by
  constructor
  intro pins s σ H Q I g
  obtain ⟨p, M, ρ, o, R, L, e, po⟩ := g
  rcases h _ _ _ e with e | e
  · exact h1.run pins s σ H Q I ⟨p, M, ρ, o, R, L, e, po⟩
  · exact h2.run pins s σ H Q I ⟨p, M, ρ, o, R, L, e, po⟩
/-- x[i] of a list, a tuple, a text, or of a dict with text keys -/
def ixdG : G2 := fun x y M => match y with
  | .str s => dgetG x (.str s) M
  | y => ixG x y M
theorem or_ixd {fa fb : EF} : Or2 (eOp ixdG fa fb) (eOp ixG fa fb) (eOp dgetG fa fb) := by
  intro r M o e
  unfold eOp at e ⊢
  cases ea : fa r M with
  | none => rw [ea] at e; cases e
  | some x =>
    rw [ea] at e
    cases x with
    | er c M1 => exact .inl e
    | ok x M1 =>
      rw [bnd_ok] at e
      simp only [bnd_ok]
      cases eb : fb r M1 with
      | none => rw [eb] at e; cases e
      | some y =>
        rw [eb] at e
        cases y with
        | er c M2 => exact .inl e
        | ok y M2 =>
          rw [bnd_ok] at e
          simp only [bnd_ok]
          cases y with
          | str s => exact .inr e
          | _ => exact .inl e
/-! ### max of three -/
def max3 : List D → Hd → Option (Rs D) := fun ds M => match ds with
  | [.int i, .int j, .int k] => some (.ok (.int (if k > (if j > i then j else i) then k else (if j > i then j else i))) M)
  | _ => none
@[simp] theorem max3_int {i j k : Int} {M : Hd} : max3 [.int i, .int j, .int k] M = some (.ok (.int (if k > (if j > i then j else i) then k else (if j > i then j else i))) M) := rfl
theorem ga3 {k : Kx} {p : List Addr} {H : Hp} {i j l : Int} {vs : List V} (q : Reps k.K p H [.int i, .int j, .int l] vs) : vs = [.int i, .int j, .int l] := by
  unfold Reps at q
  obtain ⟨v, ws, rfl, a, q⟩ := q
  rw [ga2 (k := k) q]
  unfold Rep at a
  rw [a]
theorem nu3 {i j k : Int} : nuMax3 (.int i) (.int j) (.int k) = some (V.int (if k > (if j > i then j else i) then k else (if j > i then j else i))) := by
  have two : ∀ a b : Int, nuMax2 (.int a) (.int b) = some (V.int (if b > a then b else a)) := fun a b => by
    unfold nuMax2 nuLt nuCB
    simp only [Option.map_some]
    by_cases h : a < b
    · rw [decide_eq_true h, if_pos rfl, if_pos h]
    · rw [decide_eq_false h, if_neg Bool.false_ne_true, if_neg h]
  unfold nuMax3
  rw [two]
  show nuMax2 (V.int _) (.int k) = _
  rw [two]
section
variable {X : Cx} {z : Zx} {W : WX} {e : Expr} {es : List Expr} {g : AF} {pos : Pos}
theorem de_max3 {p' : Pos} (hc : X.calm = true) (ha : DA X z W (e :: es) g) (hm : X.mg "max" = none) (hg : Gl X "max" := by rfl) (he : starEach (e :: es) X.env = (false, eval e X.env) :: starEach es X.env := by rfl) (hpl : (backTo pos (starEach es X.env)).any (·.1) = false := by rfl) :
    DE X z W (.Call (.Name "max" p') (e :: es) [] pos) (eCB max3 g) := by
  refine (pe_callB (call_max3Nu hc) hg hm PyProof.Rows.boot_max ha (he := he) (hpl := hpl)).imp ?_
  rintro σ H Q ⟨p, M, ρ, o, R, L, e, po⟩
  refine gE_bnd R L e po fun d M1 p1 H1 v R1 L1 hl1 hp1 q1 e1 po1 => ?_
  unfold max3 at e1
  split at e1
  · cases e1
    exact ⟨_, _, _, _, ga3 (k := Cx.k X z) q1, nu3, po1.ok R1 rep_int⟩
  · cases e1
end
/-! ### d[k] = v -/
def putS (s : Str) (d : D) (kvs : List (Str × D)) : List (Str × D) := if (kvs.any fun x => decide (x.1 = s)) = true then kvs.map (fun x => if x.1 = s then (x.1, d) else x) else kvs ++ [(s, d)]
def sPutD (f fo fi : EF) : SF := fun r M => exB (f r M) r fun d M1 => exB (fo r M1) r fun o M2 => exB (fi r M2) r fun i M3 => match o, i with
  | .ref p, .str s => (match M3[p]? with
    | some (.dic kvs) => if kvs.length < 15 then some (.nx r, M3.set p (.dic (putS s d kvs))) else none
    | _ => none)
  | _, _ => none
section
variable {K : PySem.W.Frag} {p : List Addr} {H : Hp} {s : Str} {d : D} {v : V}
theorem put_any : ∀ {kvs : List (Str × D)} {ws : List (Key × V)}, Paired (fun (x : Str × D) (y : Key × V) => y.1 = Sum.inr x.1 ∧ Rep K p H x.2 y.2) kvs ws → (ws.any fun y => decide (y.1 = Sum.inr s)) = kvs.any fun x => decide (x.1 = s)
  | _, _, .nil => rfl
  | (x, e) :: kvs, (y, u) :: ws, .cons h t => by
    obtain ⟨h1, h2⟩ := h
    have h1 : y = Sum.inr x := h1
    subst h1
    rw [List.any_cons, List.any_cons, put_any t]
    congr 1
    by_cases hx : x = s
    · rw [decide_eq_true hx, decide_eq_true (by rw [hx])]
    · rw [decide_eq_false hx, decide_eq_false fun q => hx (Sum.inr.inj q)]
theorem put_map (hd : Rep K p H d v) : ∀ {kvs : List (Str × D)} {ws : List (Key × V)}, Paired (fun (x : Str × D) (y : Key × V) => y.1 = Sum.inr x.1 ∧ Rep K p H x.2 y.2) kvs ws →
    Paired (fun (x : Str × D) (y : Key × V) => y.1 = Sum.inr x.1 ∧ Rep K p H x.2 y.2) (kvs.map fun x => if x.1 = s then (x.1, d) else x) (ws.map fun y => if y.1 = Sum.inr s then (y.1, v) else y)
  | _, _, .nil => .nil
  | (x, e) :: kvs, (y, u) :: ws, .cons h t => by
    obtain ⟨h1, h2⟩ := h
    have h1 : y = Sum.inr x := h1
    subst h1
    rw [List.map_cons, List.map_cons]
    refine .cons ?_ (put_map hd t)
    by_cases hx : x = s
    · subst hx
      rw [if_pos rfl, if_pos rfl]
      exact ⟨rfl, hd⟩
    · rw [if_neg hx, if_neg fun q => hx (Sum.inr.inj q)]
      exact ⟨rfl, h2⟩
theorem put_end (hd : Rep K p H d v) : ∀ {kvs : List (Str × D)} {ws : List (Key × V)}, Paired (fun (x : Str × D) (y : Key × V) => y.1 = Sum.inr x.1 ∧ Rep K p H x.2 y.2) kvs ws →
    Paired (fun (x : Str × D) (y : Key × V) => y.1 = Sum.inr x.1 ∧ Rep K p H x.2 y.2) (kvs ++ [(s, d)]) (ws ++ [(Sum.inr s, v)])
  | _, _, .nil => .cons ⟨rfl, hd⟩ .nil
  | _ :: _, _ :: _, .cons h t => .cons h (put_end hd t)
theorem put_pair (hd : Rep K p H d v) {kvs : List (Str × D)} {ws : List (Key × V)} (h : Paired (fun (x : Str × D) (y : Key × V) => y.1 = Sum.inr x.1 ∧ Rep K p H x.2 y.2) kvs ws) :
    Paired (fun (x : Str × D) (y : Key × V) => y.1 = Sum.inr x.1 ∧ Rep K p H x.2 y.2) (putS s d kvs) (putK ws (Sum.inr s) v) := by
  unfold putS putK
  rw [put_any h]
  by_cases hx : (kvs.any fun x => decide (x.1 = s)) = true
  · rw [if_pos hx, if_pos hx]
    exact put_map hd h
  · rw [if_neg hx, if_neg hx]
    exact put_end hd h
end
section
variable {X : Cx} {z : Zx} {W : WX} {o i e : Expr} {fo fi fe : EF} {pos pos' : Pos}
theorem ds_putD (hu : X.A.units + 1 < cLine) (he : DE X z W e fe) (ho : DE X z W o fo) (hi : DE X z W i fi) (hs : swapsWith e (some (.Subscript o i pos')) pos.line X.env = pure false := by rfl) : DS X z W (.Assign [.Subscript o i pos'] e pos) (sPutD fe fo fi) := by
  refine (ps_dput hu ho hi he hs).imp ?_
  rintro Dn σ H ⟨p, M, ρ, oo, R, L, e, po⟩
  unfold sPutD at e
  refine gE_exB R L e po fun d M1 p1 H1 v R1 L1 hl1 hp1 q1 e1 po1 => ?_
  refine gE_exB R1 L1 e1 po1 fun d2 M2 p2 H2 v2 R2 L2 hl2 hp2 q2 e2 po2 => ?_
  refine gE_exB R2 L2 e2 po2 fun d3 M3 p3 H3 v3 R3 L3 hl3 hp3 q3 e3 po3 => ?_
  cases d2 with
  | ref i =>
    cases d3 with
    | str s =>
      dsimp only at e3
      split at e3
      · rename_i kvs hk
        split at e3
        · rename_i hlen
          cases e3
          have q2' := Rep.up hp3 hl3 _ q2
          have q1' := Rep.up hp3 hl3 _ (Rep.up hp2 hl2 _ q1)
          unfold Rep at q2' q3
          obtain ⟨a, ha, rfl⟩ := q2'
          obtain ⟨b, hb, ws, w1, w2⟩ := R3.ob i _ hk
          rw [ha] at hb
          cases hb
          subst q3
          obtain ⟨R4, hl4⟩ := R3.put (u := .dK (putK ws (Sum.inr s) v)) (o := .dic (putS s d kvs)) ha fun hl => ⟨_, upd_same, put_pair (Rep.up (List.prefix_refl _) hl _ q1') (paired_mono (fun x y q => ⟨q.1, Rep.up (List.prefix_refl _) hl _ q.2⟩) w2)⟩
          have hz : ws.length < sizeLine := by rw [← paired_len w2, sizeLine_eq]; omega
          exact ⟨a, _, rfl, DPut.k (k := Sum.inr s) w1 hz, po3 p3 _ σ (List.prefix_refl p3) hl4 R4 (L3.up (List.prefix_refl p3) hl4)⟩
        · cases e3
      · cases e3
    | _ => cases e3
  | _ => cases e3
end
end DI

end

section
set_option Elab.async false
set_option linter.all false
set_option maxRecDepth 100000
set_option maxHeartbeats 4000000
/-! DI20: names = a list; isinstance of an instance and its own class. -/
namespace DI
open PySem PySem.Spec PyProof.Rows L2
def sAsgL (l : List Nat) (f : EF) : SF := fun r M => exB (f r M) r fun d M1 => match d with
  | .ref i => (match M1[i]? with
    | some (.lst ds) => (match setAll l ds r with
      | some r1 => some (.nx r1, M1)
      | none => none)
    | _ => none)
  | _ => none
def gL (k : Kx) (l : List Nat) : TG := fun v σ H Q => ∃ p M r i ds r1, Rl k.K k.mg p M H ∧ Sl k.K k.z p H r σ ∧ Rep k.K p H (.ref i) v ∧ M[i]? = some (.lst ds) ∧ setAll l ds r = some r1 ∧
  ∀ σ', Sl k.K k.z p H r1 σ' → Q σ' H
theorem setAll_len : ∀ (l : List Nat) (ds : List D) (r r1 : Ev), setAll l ds r = some r1 → ds.length = l.length
  | [], [], _, _, _ => rfl
  | [], _ :: _, _, _, e => nomatch e
  | _ :: _, [], _, _, e => nomatch e
  | i :: l, d :: ds, r, r1, e => by rw [List.length_cons, List.length_cons, setAll_len l ds _ _ e]
section
variable {X : Cx} {z : Zx} {W : WX} {a b c e : Expr} {fa fb fc f : EF} {pos : Pos}
theorem dg_lst {es : List Expr} {kk : Nat} {l : List Nat} {n : Nat} (hc : X.calm = true) (h : DGs X z es l) (hl : l.length = n := by rfl) (hn : (assignEach es X.env).length = n := by rfl) (hst : (assignEach es X.env).findIdx? (·.1) = none := by rfl) : PG X (.Tuple es kk pos) (gL (Cx.k X z) l) := by
  refine (pg_unl (n := n) hc h hn hst).imp ?_
  rintro v σ H Q ⟨p, M, r, i, ds, r1, R, L, q, g, e, k⟩
  obtain ⟨a, vs, rfl, _, s, rr⟩ := rep_lst R q g
  exact ⟨a, vs, rfl, SqL.of s, by rw [← reps_len rr, setAll_len l ds r r1 e, hl], p, M, r, ds, r1, R, L, rr, e, fun σ' L' _ => k σ' L'⟩
theorem ds_asgL {es : List Expr} {kk : Nat} {p2 : Pos} {l : List Nat} (he : DE X z W e f) (hg : PG X (.Tuple es kk p2) (gL (Cx.k X z) l)) (hs : swapsWithSole [.Tuple es kk p2] e pos.line X.env = pure false := by rfl) (hw : swappedStores [.Tuple es kk p2] e X.env = pure none := by rfl)
    (h1 : (assignEach [.Tuple es kk p2] X.env).map (·.2) = [assign (.Tuple es kk p2) X.env] := by rfl) : DS X z W (.Assign [.Tuple es kk p2] e pos) (sAsgL l f) := by
  refine (ps_asg he hg hs hw h1).imp ?_
  rintro Dn σ H ⟨p, M, ρ, o, R, L, e, po⟩
  refine gE_exB R L e po fun d M1 p1 H1 v R1 L1 hl1 hp1 q1 e1 po1 => ?_
  cases d with
  | ref i =>
    dsimp only at e1
    split at e1
    · rename_i ds hg
      split at e1
      · rename_i r1 hr1
        cases e1
        exact ⟨p1, M1, ρ, i, ds, r1, R1, L1, q1, hg, hr1, fun σ' L' => po1.nx R1 L'⟩
      · cases e1
    · cases e1
  | _ => cases e1
/-! ### isinstance(x, c), c an own class: x is of this class, or a plain thing -/
def isoG (c : Str) : D → Hd → Option (Rs D) := fun d M => match d with
  | .ref i => (match M[i]? with
    | some (.ins c' _) => if c' = c then some (.ok (.bl true) M) else none
    | _ => none)
  | _ => none
structure InsF (K : PySem.W.Frag) (mg : Str → Option Value) (c : Str) : Prop where
  ex : ∃ C, mg c = some (.ref C) ∧ C8.InsC K C
theorem de_iso {x : Str} {p' p2 : Pos} (F : InsF X.K X.mg x) (ha : DE X z W e f) (hm : X.mg "isinstance" = none) (hg : Gl X "isinstance" := by rfl) (hgT : Gl X x := by rfl) (hdb : (x == ("__debug__" : Str)) = false := by decide)
    (he : starEach [e, .Name x p2] X.env = (false, eval e X.env) :: starEach [.Name x p2] X.env := by rfl) (hpl : (backTo pos (starEach [.Name x p2] X.env)).any (·.1) = false := by rfl) (he2 : starEach [.Name x p2] X.env = (false, eval (.Name x p2) X.env) :: starEach [] X.env := by rfl) :
    DE X z W (.Call (.Name "isinstance" p') [e, .Name x p2] [] pos) (eUn (isoG x) f) := by
  obtain ⟨C, hC, ic⟩ := F.ex
  refine (pe_callB (C8.call_isC ic) hg hm PyProof.Rows.boot_isinstance (pa_cons ha (pa_cons (pe_glob (v := .ref C) hgT hC rfl hdb) pa_nil he2) he) (he := he) (hpl := hpl)).imp ?_
  rintro σ H Q ⟨p, M, ρ, o, R, L, e, po⟩
  refine gE_bnd R L e po fun d M1 p1 H1 v R1 L1 hl1 hp1 q1 e1 po1 => ?_
  unfold isoG at e1
  cases d with
  | ref i =>
    dsimp only at e1
    split at e1
    · rename_i c' fs hg
      split at e1
      · rename_i hcc
        subst hcc
        cases e1
        unfold Rep at q1
        obtain ⟨a, ha, rfl⟩ := q1
        obtain ⟨o, ho, hO⟩ := R1.there ha
        rw [hg] at ho
        cases ho
        obtain ⟨C', dx, ws, hC', hH, _⟩ := hO
        have hC2 : X.mg c' = some (.ref C') := hC'
        rw [hC] at hC2
        cases hC2
        exact ⟨a, dx, ws, rfl, hH, po1.ok R1 rep_bl⟩
      · cases e1
    · cases e1
  | _ => cases e1
end
def insB (K : PySem.W.Frag) (x : Str) : Bool :=
  He.eqO (PySem.W.findIn K (.ref (He.ga K x)) "__class__") (some (some (.builtin "object.__class__"))) && (He.eqO (PySem.W.specialIn K (.builtin "object.__class__") "__get__") (some (some (.builtin "getset_descriptor.__get__"))) && (decide (PySem.W.takesIn K (.builtin "object.__class__") = some true) && (decide (PySem.W.mroIn K (He.ga K x) (.type "object") = some true) && decide (PySem.W.kitOne K (.ref (He.ga K x)) (.ref (He.ga K x)) = some true))))
theorem insF_of {K : PySem.W.Frag} {mg : Str → Option Value} {x : Str} (g : mg x = some (.ref (He.ga K x))) (c : Cls K (He.ga K x)) (h : insB K x = true) : InsF K mg x := by
  obtain ⟨h1, h⟩ := He.ba h
  obtain ⟨h2, h⟩ := He.ba h
  obtain ⟨h3, h⟩ := He.ba h
  obtain ⟨h4, h5⟩ := He.ba h
  exact ⟨⟨_, g, c, He.eqO_ok h1, He.eqO_ok h2, of_decide_eq_true h3, of_decide_eq_true h4, of_decide_eq_true h5⟩⟩
end DI

end

section
set_option Elab.async false
set_option linter.all false
set_option maxRecDepth 100000
set_option maxHeartbeats 4000000
/-! DI21: a def that goes by another name of the module. -/
namespace DI
open PySem PySem.Spec PyProof.Rows L2
theorem dfn_as {P : Program} {w : World} {K : PySem.W.Frag} {mg : Str → Option Value} {base : Heap} {x y qual : Str} {params : Arguments} {body : List Stmt} {scope : Scope} {f : Addr} {fd : FuncData} {N ps : List Str} {k : Nat} {g : SF}
    (F : FunD K x qual params body scope [] [] f fd) (hmg : mg y = some (.ref f)) (hb : Binds K fd ps []) (h : FnOk P w K mg base (L2.CX P w) k f fd ps (spD K mg ps.length (mir N.length ps.length g))) : Dfn P w K mg base k y ps.length (mir N.length ps.length g) :=
  ⟨fun ds M o e => mir_len e, f, fd, ps, hmg, F.kp, hb, h⟩
end DI

end

section
set_option Elab.async false
set_option linter.all false
set_option maxRecDepth 100000
set_option maxHeartbeats 4000000
/-! DI22: len(set(..)) of ints, list.pop(i). -/
namespace DI
open PySem PySem.Spec PyProof.Rows L2
def ded (ns : List Int) : List Int := ns.foldl (fun acc x => if acc.any (· == x) then acc else acc ++ [x]) []
theorem ded_first (ns : List Int) : PyProof.Rows.firstMet (fun i => ns.getD i 0) ns.length = ded ns := by
  unfold PyProof.Rows.firstMet ded
  have e : (List.range ns.length).map (fun i => ns.getD i 0) = ns := by
    apply List.ext_getElem
    · simp
    · intro i h1 h2
      rw [List.getElem_map, List.getElem_range, List.getD_eq_getElem?_getD, List.getElem?_eq_getElem h2]
      rfl
  rw [e]
  rfl
theorem ded_len (ns : List Int) : (ded ns).length ≤ ns.length := by
  rw [← ded_first]
  exact PyProof.Rows.firstMet_length_le _ _
def tLenSetA (K : PySem.W.Frag) (ta : TE) : TE := fun σ H Q => ta σ H fun x H1 => ∃ (l : Addr) (ns : List Int), x = .ref l ∧ SqL K H1 l (ns.map V.int) ∧ ns.length ≤ 4000 ∧ Q (.int ((ded ns).length : Nat)) H1
theorem pe_lenSetA {X : Cx} {a : Expr} {ta : TE} {p p2 q pos : Pos} (hg : Gl X "len") (hm : X.mg "len" = none) (hg2 : Gl X "set") (hm2 : X.mg "set" = none) (ha : PE X a ta) (hc : X.calm = true := by rfl)
    (na : starEach [a] X.env = (false, eval a X.env) :: starEach [] X.env := by rfl) : PE X (.Call (.Name "len" p) [.Call (.Name "set" p2) [a] [] q] [] pos) (tLenSetA X.K ta) := by
  refine ⟨fun pins s σ H Q I h => ?_⟩
  refine Call_ (ld_blt I hg hm boot_len ?_)
  refine PyProof.Rows.callWith_builtin1 (PyProof.Rows.args_cons ?_ rfl) rfl rfl
  refine Call_ (ld_blt I hg2 hm2 boot_set ?_)
  refine PyProof.Rows.callWith_type1 (PyProof.Rows.args_cons (thn (ha.run pins s σ H _ I h) fun v s1 ⟨x, H1, I1, r1, q1⟩ => PyProof.Rows.args_nil ?_) na) na rfl
  obtain ⟨l, ns, rfl, hq, hl, q1⟩ := q1
  cases r1
  obtain ⟨its, r, pl, hz⟩ := I1.list hq
  have hlen : its.toArray.size = ns.length := by rw [List.size_toArray, ← r.length, List.length_map]
  refine call_set_list (I1.ok.hd hc) pl.isList (by simpa using RZ.intsAre_vals r) (by rw [hlen]; unfold scanBound; omega) fun h' tk hS hk => ?_
  refine PyProof.Rows.args_nil ?_
  rw [hlen, ded_first] at hS
  have hdl := ded_len ns
  obtain ⟨o, es, ep, t, ho, hex, hd, _, _, _, hf, hn⟩ := hS
  have I2 : Inv X pins σ H1 { s1 with heap := h', toks := tk } := I1.kept fun b o e => hk b o (Heap.lt_size e) e
  exact call_len_set ho hex hd hf (by rw [hn] <;> omega) ⟨.int (ded ns).length, H1, I2.tok _, ⟨_, by rw [hn]⟩, q1⟩
def lenSetG : D → Hd → Option (Rs D) := fun d M => match d with
  | .ref i => (match M[i]? with
    | some (.lst ds) => (match ds.mapM intOf with
      | some ns => if ns.length ≤ 4000 then some (.ok (.int (ded ns).length) M) else none
      | _ => Option.none)
    | _ => Option.none)
  | _ => Option.none
theorem de_lenSet {X : Cx} {z : Zx} {W : WX} {e : Expr} {f : EF} {pos p p2 q : Pos} (hc : X.calm = true) (ha : DE X z W e f) (hm : X.mg "len" = Option.none) (hm2 : X.mg "set" = Option.none) (hg : Gl X "len" := by rfl) (hg2 : Gl X "set" := by rfl) (he : starEach [e] X.env = (false, eval e X.env) :: starEach [] X.env := by rfl) : DE X z W (.Call (.Name "len" p) [.Call (.Name "set" p2) [e] [] q] [] pos) (eUn lenSetG f) := by
  refine (pe_lenSetA hg hm hg2 hm2 ha hc he).imp ?_
  rintro σ H Q ⟨p, M, ρ, o, R, L, e, po⟩
  refine gE_bnd R L e po fun d M1 p1 H1 v R1 L1 hl1 hp1 q1 e1 po1 => ?_
  cases d with
  | ref i =>
    unfold lenSetG at e1
    dsimp only at e1
    split at e1
    · rename_i ds ho
      obtain ⟨a, vs, rfl, ha, s, r0⟩ := rep_lst R1 q1 ho
      split at e1
      · rename_i ns hn
        split at e1
        · rename_i hl
          cases e1
          have := reps_ints r0 hn
          subst this
          exact ⟨a, ns, rfl, SqL.of s, hl, po1.ok R1 rep_int⟩
        · cases e1
      · cases e1
    · cases e1
  | _ => cases e1
def popAtG (i : Nat) (ds as : List D) (M : Hd) : Option (Rs D) := match as with
  | [.int j] => if 0 ≤ j ∧ j < 1000000 then (match ds[j.toNat]? with
    | some y => some (.ok y (M.set i (.lst (ds.eraseIdx j.toNat))))
    | none => none) else none
  | _ => none
theorem reps_eraseIdx {k : Kx} {p : List Addr} {H : Hp} {ds : List D} {vs : List V} (n : Nat) (h : Reps k.K p H ds vs) : Reps k.K p H (ds.eraseIdx n) (vs.eraseIdx n) := by
  rw [List.eraseIdx_eq_take_drop_succ, List.eraseIdx_eq_take_drop_succ]
  exact reps_app (reps_take n h) (reps_drop (n + 1) h)
theorem de_popAt {X : Cx} {z : Zx} {W : WX} {a e : Expr} {es : List Expr} {fa : EF} {g : AF} {ap pos : Pos} (ha : DE X z W a fa) (hb : DA X z W (e :: es) g) (hbm : attributeBase a "pop" X.env (eval a X.env) = eval a X.env := by rfl) (he : starEach (e :: es) X.env = (false, eval e X.env) :: starEach es X.env := by rfl)
    (hfew : ((backTo pos (starEach (e :: es) X.env)).all (fun x => !x.1) && (backToKw pos (keywordEach [] X.env)).all (fun x => x.1.isSome) && decide ((e :: es).length + ([] : List Keyword).length + (if ([] : List Keyword).isEmpty then 0 else 1) < 30)) = true := by rfl)
    (hln : (ap.endLine == pos.line) = true := by rfl) (hpl : (backTo pos (starEach es X.env)).any (·.1) = false := by rfl) : DE X z W (.Call (.Attribute a "pop" ap) (e :: es) [] pos) (eLm popAtG fa g) := by
  refine (pe_bm PySem.F.plainAttrs_list PySem.F.slot_list_pop PySem.F.type_list_pop mt_popAt ha hb hbm hfew hln he hpl).imp fun σ H Q q => ?_
  refine gE_lm (k := Cx.k X z) (fun {p M H a i ds vs as ws o Q} σ R ha ho s r0 q1 e po => ?_) q
  unfold popAtG at e
  split at e
  · rename_i j
    split at e
    · rename_i hj
      split at e
      · rename_i y hy
        cases e
        obtain ⟨v, rfl, q3⟩ := reps1 q1
        cases q3
        obtain ⟨u, h1, h2⟩ := reps_get r0 hy
        have hlt : j.toNat < vs.length := (List.getElem?_eq_some_iff.mp h1).1
        refine ⟨a, vs, j, j.toNat, u, rfl, rfl, s, by omega, by omega, ?_, h1, rep_put R ha (reps_eraseIdx (k := Cx.k X z) _ r0) h2 po⟩
        unfold seqIndex?
        dsimp only
        have e1 : (if j < 0 then j + (vs.length : Int) else j) = j := if_neg (by omega)
        rw [e1, if_pos (by simp; omega)]
      · cases e
    · cases e
  · cases e
end DI

end

section
set_option Elab.async false
set_option linter.all false
set_option maxRecDepth 100000
set_option maxHeartbeats 4000000
/-! DI23: o.f += e; properties of own classes; the head's hook with properties. -/
namespace DI
open PySem PySem.Spec PyProof.Rows L2

/-- o.f op= e -/
def sFldA (c f : Str) (g : G2) (fo fe : EF) : SF := fun r M => exB (fo r M) r fun x M1 => match x with
  | .ref i => (match M1[i]? with
    | some (.ins c' fs) => if c' = c then (match fs.lookup f with
      | some d => exB (fe r M1) r fun e M2 => exB (g d e M2) r fun z M3 => (match M3[i]? with
        | some (.ins c2 fs2) => if c2 = c ∧ fs2.length < 1000 then some (.nx r, M3.set i (.ins c (putFD f z fs2))) else none
        | _ => none)
      | none => none) else none
    | _ => none)
  | _ => none
section
variable {X : Cx} {z : Zx} {W : WX} {a o e : Expr} {fa fo fe : EF} {c f : Str} {fl : List Str} {pos pos' : Pos}
theorem ds_fldaug {op : Operator} {r : R2} {g : G2} (F : ClsK X.K X.mg c fl) (hf : f ∈ fl) (hp : PIp X op r) (hg : OD (Cx.k X z) r g) (ho : DE X z W o fo) (he : DE X z W e fe) : DS X z W (.AugAssign (.Attribute o f pos') op e pos) (sFldA c f g fo fe) := by
  obtain ⟨C, h1, h2, h3⟩ := F.ex
  refine (ps_fldaug (rd := r) ho he hp).imp ?_
  rintro Dn σ H ⟨p, M, ρ, oo, R, L, e, po⟩
  unfold sFldA at e
  refine gE_exB R L e po fun d1 M1 p1 H1 v1 R1 L1 hl1 hp1 q1 e1 po1 => ?_
  cases d1 with
  | ref i =>
    dsimp only at e1
    split at e1
    · rename_i c' fs hi
      split at e1
      · rename_i hcc
        subst hcc
        obtain ⟨a, dx, ws, rfl, g1, g2, g3⟩ := rep_ins R1 q1 hi h1
        split at e1
        · rename_i d hl
          obtain ⟨w, w1, w2⟩ := fld_get g3 hl
          refine ⟨a, C, dx, ws, w, rfl, g2, h2, h3 f hf, w1, ?_⟩
          refine gE_exB R1 L1 e1 po1 fun d2 M2 p2 H2 v2 R2 L2 hl2 hp2 q2 e2 po2 => ?_
          cases eg : g d d2 M2 with
          | none => rw [eg] at e2; cases e2
          | some o2 =>
            refine hg W σ R2 (Rep.up hp2 hl2 _ w2) q2 eg ?_
            rw [eg] at e2
            cases o2 with
            | er c M3 =>
              cases e2
              exact fun p3 H3 C hp3 hl3 R3 q3 => po2 p3 H3 σ C hp3 hl3 R3 (L2.up hp3 hl3) q3
            | ok d3 M3 =>
              intro p3 H3 v3 hp3 hl3 R3 q3
              have e2 : (match M3[i]? with
                | some (O.ins c2 fs2) => if c2 = c' ∧ fs2.length < 1000 then some (Fl.nx ρ, M3.set i (.ins c' (putFD f d3 fs2))) else none
                | _ => none) = some oo := e2
              split at e2
              · rename_i c2 fs2 hi3
                split at e2
                · rename_i hcc
                  obtain ⟨rfl, hlen⟩ := hcc
                  have q1' := Rep.up (hp2.trans hp3) (hl2.trans hl3) _ q1
                  obtain ⟨a', dx', ws', ea, g1', g2', g3'⟩ := rep_ins R3 q1' hi3 h1
                  cases ea
                  cases e2
                  obtain ⟨R4, hl4⟩ := R3.put (u := .ins C dx' (putF f v3 ws')) (o := .ins c2 (putFD f d3 fs2)) g1' fun hl => ⟨C, dx', _, h1, upd_same, paired_mono (fun x y q => ⟨q.1, Rep.up (List.prefix_refl _) hl _ q.2⟩) (fld_put q3 g3')⟩
                  exact ⟨dx', ws', g2', by rw [← paired_len g3']; exact hlen, po2 p3 _ σ hp3 (hl3.trans hl4) R4 (L2.up hp3 (hl3.trans hl4))⟩
                · cases e2
              · cases e2
        · cases e1
      · cases e1
    · cases e1
  | _ => cases e1
end
/-! ### properties -/
structure Prp (P : Program) (w : World) (K : PySem.W.Frag) (mg : Str → Option Value) (base : Heap) (k : Nat) (c m : Str) (n : Nat) (mm : List D → Hd → Option (Rs D)) : Prop where
  ln : ∀ ds M o, mm ds M = some o → ds.length = n
  ex : ∃ C p f fd ps, mg c = some (.ref C) ∧ Cls K C ∧ PropOf K C m p f ∧ Binds K fd ps [] ∧ FnOk P w K mg base (L2.CX P w) k f fd ps (spD K mg n mm)
theorem Prp.mono {P : Program} {w : World} {K : PySem.W.Frag} {mg : Str → Option Value} {base : Heap} {j k n : Nat} {c m : Str} {mm : List D → Hd → Option (Rs D)} (h : Prp P w K mg base j c m n mm) (hk : j ≤ k) : Prp P w K mg base k c m n mm := by
  obtain ⟨C, p, f, fd, ps, h1, h2, h3, h4, h5⟩ := h.ex
  exact ⟨h.ln, C, p, f, fd, ps, h1, h2, h3, h4, h5.mono hk⟩
def ePrp (c : Str) (mm : List D → Hd → Option (Rs D)) (fa : EF) : EF := fun r M => bnd (fa r M) fun x M1 => match x with
  | .ref i => (match M1[i]? with
    | some (.ins c' fs) => if c' = c then (match mm [.ref i] M1 with
      | some (.ok d M2) => some (.ok d M2)
      | _ => none) else none
    | _ => none)
  | _ => none
theorem no_pass {P : Program} {w : World} {X : Cx} : Passes (L2.CX P w) X (fun _ _ _ => False) := by
  intro pins σ H s e s' I h
  obtain ⟨_, _, _, _, _, _, _, _, _, _, _, _, h⟩ := h
  exact h.elim
section
variable {X : Cx} {z : Zx} {W : WX} {a : Expr} {fa : EF} {c m : Str} {k n : Nat} {mm : List D → Hd → Option (Rs D)} {pos : Pos}
theorem de_prop (F : Prp X.prog X.w X.K X.mg X.base k c m n mm) (hr : Room (k + 1) X.A) (ha : DE X z W a fa) (hb : attributeBase a m X.env (eval a X.env) = eval a X.env := by rfl) : DE X z W (.Attribute a m pos) (ePrp c mm fa) := by
  obtain ⟨C, p, f, fd, ps, h1, h2, h3, h4, h5⟩ := F.ex
  refine (pe_prop (E := fun _ _ _ => False) ha h2 h3 h5 hr h4 .nil no_pass hb).imp ?_
  rintro σ H Q ⟨p, M, ρ, o, R, L, e, po⟩
  refine gE_bnd R L e po fun d M1 p1 H1 v R1 L1 hl1 hp1 q1 e1 po1 => ?_
  cases d with
  | ref i =>
    dsimp only at e1
    split at e1
    · rename_i c' fs hi
      split at e1
      · rename_i hcc
        subst hcc
        obtain ⟨a, dx, ws, rfl, _, g2, g3⟩ := rep_ins R1 q1 hi h1
        refine ⟨a, dx, ws, rfl, g2, ?_⟩
        split at e1
        · rename_i d M2 em
          cases e1
          exact ⟨p1, M1, [.ref i], _, R1, reps_cons q1 reps_nil, F.ln _ _ _ em, em, po1⟩
        · cases e1
      · cases e1
    · cases e1
  | _ => cases e1
end
/-! ### properties as the head sees them -/
structure PrD where
  c : Str
  m : Str
  d : He.DefD
def prA (K : PySem.W.Frag) (c m : Str) : Addr := He.ma K (He.ga K c) m
def prG (K : PySem.W.Frag) (c m : Str) : Addr := match PySem.W.recIn K (prA K c m) "property" with
  | some (.ref g :: _) => g
  | _ => 0
def fnWA (K : PySem.W.Frag) (a : Addr) : He.FnW := match K.lookup a with
  | some ⟨_, _, .func fd, _⟩ => some (fd.name, fd.qualname, fd.params, fd.body, fd.scope, fd.globals, fd.closure, fd.builtins)
  | _ => none
def PrD.w (K : PySem.W.Frag) (p : PrD) : He.FnW := fnWA K (prG K p.c p.m)
def PrD.ok (K : PySem.W.Frag) (p : PrD) : Bool :=
  (match PySem.W.findIn K (.ref (He.ga K p.c)) p.m with | some (some (.ref _)) => true | _ => false) &&
  ((match PySem.W.specialIn K (.ref (prA K p.c p.m)) "__get__" with | some (some (.builtin s)) => s == "property.__get__" | _ => false) &&
  ((match PySem.W.takesIn K (.ref (prA K p.c p.m)) with | some true => true | _ => false) &&
  ((match PySem.W.recIn K (prA K p.c p.m) "property" with | some (.ref _ :: _) => true | _ => false) &&
  (PySem.W.keepIn K (.ref (prG K p.c p.m)) &&
  (match K.lookup (prG K p.c p.m) with
  | some ⟨_, _, .func fd, _⟩ => PySem.W.codeIn K fd.code p.d.qual && He.dflB K fd.defaults []
  | _ => false)))))
theorem PrD.all {K : PySem.W.Frag} {p : PrD} (h : p.ok K = true) (e : p.w K = p.d.val) : PropOf K (He.ga K p.c) p.m (prA K p.c p.m) (prG K p.c p.m) ∧ ∃ fd, FunD K p.d.name p.d.qual p.d.params p.d.body p.d.scope [] [] (prG K p.c p.m) fd := by
  unfold PrD.ok at h
  simp only [Bool.and_eq_true] at h
  obtain ⟨h1, h2, h3, h4, h5, h6⟩ := h
  refine ⟨⟨?_, ?_, ?_, ?_⟩, ?_⟩
  · split at h1
    · rename_i a ea
      unfold prA He.ma
      rw [ea]
    · cases h1
  · split at h2
    · rename_i s es
      rw [beq_iff_eq] at h2
      subst h2
      exact es
    · cases h2
  · split at h3
    · rename_i es
      exact es
    · cases h3
  · split at h4
    · rename_i g r es
      refine ⟨r, ?_⟩
      unfold prG
      rw [es]
    · cases h4
  · unfold PrD.w fnWA at e
    split at h6
    · rename_i oc od fd osl hl
      rw [hl] at e
      obtain ⟨n1, n2, n3, n4, n5, n6, n7, n8, n9, n10, n11, n12, n13, n14, n15⟩ := fd
      have e := Option.some.inj e
      simp only [Prod.mk.injEq] at e
      obtain ⟨e1, e2, e3, e4, e5, e6, e7, e8⟩ := e
      subst e1 e2 e3 e4 e5 e6 e7 e8
      rw [Bool.and_eq_true] at h6
      exact ⟨_, ⟨⟨oc, od, n8, n9, n10, n11, n12, n13, n14, osl, rfl, hl, h6.1, He.dflB_ok h6.2, .inl rfl⟩, h5⟩⟩
    · cases h6
def hookP (n : Nat) (fa : List He.Fa) (fn : List He.DefD) (ex : PySem.W.Frag → Bool) (ps : List PrD) : PySem.W.Hook where
  α := (He.AlD × Bool) × List He.FnW
  obs := fun s => ((He.obsD fa fn (He.frG s.heap.get? (He.asD s.heap.get? n)), ex (He.frG s.heap.get? (He.asD s.heap.get? n))), ps.map (PrD.w (He.frG s.heap.get? (He.asD s.heap.get? n))))
  val := fun _ => ((He.valD fn, true), ps.map fun p => p.d.val)
  says := fun _ h => ∃ K : PySem.W.Frag, K.In h ∧ He.SaysD fa fn K ∧ (ex K = true ∧ ps.map (PrD.w K) = ps.map fun p => p.d.val)
  of := fun _ _ e => ⟨_, He.frG_in, congrArg Prod.fst (congrArg Prod.fst e), congrArg Prod.snd (congrArg Prod.fst e), congrArg Prod.snd e⟩
  keeps := fun _ _ _ ⟨K, hK, c⟩ k => ⟨K, PySem.W.Frag.In.keeps hK k, c⟩
def obP (n : Nat) (fa : List He.Fa) (fn : List He.DefD) (ex : PySem.W.Frag → Bool) (ps : List PrD) (g : Addr → Option Obj) : (He.AlD × Bool) × List He.FnW := ((He.obsD fa fn (He.frG g (He.asD g n)), ex (He.frG g (He.asD g n))), ps.map (PrD.w (He.frG g (He.asD g n))))
theorem obP_eq {n : Nat} {fa : List He.Fa} {fn : List He.DefD} {ex : PySem.W.Frag → Bool} {ps : List PrD} {g : Addr → Option Obj} {s : Shared} (h : ∀ a, g a = s.heap.get? a) : obP n fa fn ex ps g = (hookP n fa fn ex ps).obs s := by
  have e : g = s.heap.get? := funext h
  rw [e]
  rfl
def hookPR (n : Nat) (fa : List He.Fa) (fn : List He.DefD) (ts : List He.Tab) (ex : PySem.W.Frag → Bool) (ps : List PrD) : PySem.W.Hook where
  α := (He.AlT × Bool) × List He.FnW
  obs := fun s => ((He.obsT fa fn ts (He.frG s.heap.get? (He.asD s.heap.get? n)), ex (He.frG s.heap.get? (He.asD s.heap.get? n))), ps.map (PrD.w (He.frG s.heap.get? (He.asD s.heap.get? n))))
  val := fun w => ((He.valT fn ts w, true), ps.map fun p => p.d.val)
  says := fun w h => ∃ K : PySem.W.Frag, K.In h ∧ He.SaysT fa fn ts w K ∧ (ex K = true ∧ ps.map (PrD.w K) = ps.map fun p => p.d.val)
  of := fun _ _ e => ⟨_, He.frG_in, congrArg Prod.fst (congrArg Prod.fst e), congrArg Prod.snd (congrArg Prod.fst e), congrArg Prod.snd e⟩
  keeps := fun _ _ _ ⟨K, hK, c⟩ k => ⟨K, PySem.W.Frag.In.keeps hK k, c⟩
def obPR (n : Nat) (fa : List He.Fa) (fn : List He.DefD) (ts : List He.Tab) (ex : PySem.W.Frag → Bool) (ps : List PrD) (g : Addr → Option Obj) : (He.AlT × Bool) × List He.FnW := ((He.obsT fa fn ts (He.frG g (He.asD g n)), ex (He.frG g (He.asD g n))), ps.map (PrD.w (He.frG g (He.asD g n))))
theorem obPR_eq {n : Nat} {fa : List He.Fa} {fn : List He.DefD} {ts : List He.Tab} {ex : PySem.W.Frag → Bool} {ps : List PrD} {g : Addr → Option Obj} {s : Shared} (h : ∀ a, g a = s.heap.get? a) : obPR n fa fn ts ex ps g = (hookPR n fa fn ts ex ps).obs s := by
  have e : g = s.heap.get? := funext h
  rw [e]
  rfl
theorem pr_at {K : PySem.W.Frag} {ps : List PrD} (c : ps.map (PrD.w K) = ps.map fun p => p.d.val) (i : Nat) {p : PrD} (h : ps[i]? = some p := by rfl) : p.w K = p.d.val := by
  have e2 : (ps.map (PrD.w K))[i]? = (ps.map fun p => p.d.val)[i]? := by rw [c]
  rw [List.getElem?_map, List.getElem?_map, h] at e2
  exact Option.some.inj e2
end DI

end

section
set_option Elab.async false
set_option linter.all false
set_option maxRecDepth 100000
set_option maxHeartbeats 4000000
namespace G
open PySem PySem.Spec PyProof.Rows L2 DI
def top (i : Nat) : Stmt := PySem.Challenge.pw_brimful_k54_whole_loans_give_back.main.body.getD i (.Pass ⟨0, 0, 0, 0⟩)
def mth (i j : Nat) : Stmt := match top i with
  | .ClassDef _ _ _ b _ _ _ _ _ _ _ => b.getD j (.Pass ⟨0, 0, 0, 0⟩)
  | s => s
abbrev s__law_mixed : Stmt := top 37
abbrev s__law_numbers : Stmt := top 38
abbrev s__law_draw : Stmt := top 39
abbrev s__law_modulus : Stmt := top 46
abbrev s_is_integer : Stmt := top 8
abbrev s_is_number : Stmt := top 9
abbrev s_check_numbers : Stmt := top 30
abbrev s_Vault___init__ : Stmt := mth 35 0
abbrev s__law_number : Stmt := top 44
abbrev s__law_size : Stmt := top 51
abbrev s__law_house : Stmt := top 53
abbrev s_Vault_open_loans : Stmt := mth 35 9
abbrev s_Loan___init__ : Stmt := mth 34 0
abbrev s_Vault_lend : Stmt := mth 35 2
abbrev s__law_is_prime : Stmt := top 45
abbrev s__law_look : Stmt := top 47
abbrev s__law_factors : Stmt := top 43
abbrev s__law_gcd : Stmt := top 42
abbrev s__law_step : Stmt := top 48
abbrev s__law_places : Stmt := top 49
abbrev s__law_loan : Stmt := top 50
abbrev s_Vault_found : Stmt := mth 35 3
abbrev s_Vault_blocked : Stmt := mth 35 4
abbrev s_inverse_of : Stmt := top 11
abbrev s_weights : Stmt := top 12
abbrev s_interpolate : Stmt := top 13
abbrev s_perform_steps : Stmt := top 22
abbrev s_Vault_perform : Stmt := mth 35 5
abbrev s_Vault_advance : Stmt := mth 35 6
abbrev s_Vault_answer : Stmt := mth 35 7
abbrev s_inverse_step : Stmt := top 21
abbrev s_Vault_recall : Stmt := mth 35 8
abbrev s__law_called : Stmt := top 52
abbrev s_is_factor : Stmt := top 16
abbrev s_is_add : Stmt := top 18
abbrev s_is_table : Stmt := top 17
abbrev s_is_look : Stmt := top 19
abbrev s_is_step : Stmt := top 20
abbrev s_is_prime : Stmt := top 10
abbrev s_check_steps : Stmt := top 24
abbrev s_Program___init__ : Stmt := mth 31 0
abbrev s__law_move : Stmt := top 54
abbrev s__law_equal : Stmt := top 40
abbrev s__law_all_equal : Stmt := top 41
abbrev s_Vault_memory : Stmt := mth 35 1
abbrev s__law_given_back : Stmt := top 55
abbrev s_law : Stmt := top 56
end G
namespace E
open PySem PySem.Spec PyProof.Rows L2 DI G
def e__law_mixed : He.DefD := ⟨("_law_mixed", none), "_law_mixed", "_law_mixed", defArgs s__law_mixed, defBody s__law_mixed, defScope s__law_mixed, [], []⟩
def e__law_numbers : He.DefD := ⟨("_law_numbers", none), "_law_numbers", "_law_numbers", defArgs s__law_numbers, defBody s__law_numbers, defScope s__law_numbers, [], []⟩
def e__law_draw : He.DefD := ⟨("_law_draw", none), "_law_draw", "_law_draw", defArgs s__law_draw, defBody s__law_draw, defScope s__law_draw, [], []⟩
def e__law_modulus : He.DefD := ⟨("_law_modulus", none), "_law_modulus", "_law_modulus", defArgs s__law_modulus, defBody s__law_modulus, defScope s__law_modulus, [], []⟩
def e_is_integer : He.DefD := ⟨("is_integer", none), "is_integer", "is_integer", defArgs s_is_integer, defBody s_is_integer, defScope s_is_integer, [], []⟩
def e_is_number : He.DefD := ⟨("is_number", none), "is_number", "is_number", defArgs s_is_number, defBody s_is_number, defScope s_is_number, [], []⟩
def e_check_numbers : He.DefD := ⟨("check_numbers", none), "check_numbers", "check_numbers", defArgs s_check_numbers, defBody s_check_numbers, defScope s_check_numbers, [], []⟩
def e_Vault___init__ : He.DefD := ⟨("Vault", some "__init__"), "__init__", "Vault.__init__", defArgs s_Vault___init__, defBody s_Vault___init__, defScope s_Vault___init__, [], []⟩
def e__law_number : He.DefD := ⟨("_law_number", none), "_law_number", "_law_number", defArgs s__law_number, defBody s__law_number, defScope s__law_number, [], []⟩
def e__law_size : He.DefD := ⟨("_law_size", none), "_law_size", "_law_size", defArgs s__law_size, defBody s__law_size, defScope s__law_size, [], []⟩
def e__law_house : He.DefD := ⟨("_law_house", none), "_law_house", "_law_house", defArgs s__law_house, defBody s__law_house, defScope s__law_house, [], []⟩
def e_Vault_open_loans : He.DefD := ⟨("Vault", some "open_loans"), "open_loans", "Vault.open_loans", defArgs s_Vault_open_loans, defBody s_Vault_open_loans, defScope s_Vault_open_loans, [], []⟩
def e_Loan___init__ : He.DefD := ⟨("Loan", some "__init__"), "__init__", "Loan.__init__", defArgs s_Loan___init__, defBody s_Loan___init__, defScope s_Loan___init__, [], []⟩
def e_Vault_lend : He.DefD := ⟨("Vault", some "lend"), "lend", "Vault.lend", defArgs s_Vault_lend, defBody s_Vault_lend, defScope s_Vault_lend, [], []⟩
def e__law_is_prime : He.DefD := ⟨("_law_is_prime", none), "_law_is_prime", "_law_is_prime", defArgs s__law_is_prime, defBody s__law_is_prime, defScope s__law_is_prime, [], []⟩
def e__law_look : He.DefD := ⟨("_law_look", none), "_law_look", "_law_look", defArgs s__law_look, defBody s__law_look, defScope s__law_look, [], []⟩
def e__law_factors : He.DefD := ⟨("_law_factors", none), "_law_factors", "_law_factors", defArgs s__law_factors, defBody s__law_factors, defScope s__law_factors, [], []⟩
def e__law_gcd : He.DefD := ⟨("_law_gcd", none), "_law_gcd", "_law_gcd", defArgs s__law_gcd, defBody s__law_gcd, defScope s__law_gcd, [], []⟩
def e__law_step : He.DefD := ⟨("_law_step", none), "_law_step", "_law_step", defArgs s__law_step, defBody s__law_step, defScope s__law_step, [], []⟩
def e__law_places : He.DefD := ⟨("_law_places", none), "_law_places", "_law_places", defArgs s__law_places, defBody s__law_places, defScope s__law_places, [], []⟩
def e__law_loan : He.DefD := ⟨("_law_loan", none), "_law_loan", "_law_loan", defArgs s__law_loan, defBody s__law_loan, defScope s__law_loan, [], []⟩
def e_Vault_found : He.DefD := ⟨("Vault", some "found"), "found", "Vault.found", defArgs s_Vault_found, defBody s_Vault_found, defScope s_Vault_found, [], []⟩
def e_Vault_blocked : He.DefD := ⟨("Vault", some "blocked"), "blocked", "Vault.blocked", defArgs s_Vault_blocked, defBody s_Vault_blocked, defScope s_Vault_blocked, [], []⟩
def e_inverse_of : He.DefD := ⟨("inverse_of", none), "inverse_of", "inverse_of", defArgs s_inverse_of, defBody s_inverse_of, defScope s_inverse_of, [], []⟩
def e_weights : He.DefD := ⟨("weights", none), "weights", "weights", defArgs s_weights, defBody s_weights, defScope s_weights, [], []⟩
def e_interpolate : He.DefD := ⟨("interpolate", none), "interpolate", "interpolate", defArgs s_interpolate, defBody s_interpolate, defScope s_interpolate, [], []⟩
def e_perform_steps : He.DefD := ⟨("perform_steps", none), "perform", "perform", defArgs s_perform_steps, defBody s_perform_steps, defScope s_perform_steps, [], []⟩
def e_Vault_perform : He.DefD := ⟨("Vault", some "perform"), "perform", "Vault.perform", defArgs s_Vault_perform, defBody s_Vault_perform, defScope s_Vault_perform, [], []⟩
def e_Vault_advance : He.DefD := ⟨("Vault", some "advance"), "advance", "Vault.advance", defArgs s_Vault_advance, defBody s_Vault_advance, defScope s_Vault_advance, [], []⟩
def e_Vault_answer : He.DefD := ⟨("Vault", some "answer"), "answer", "Vault.answer", defArgs s_Vault_answer, defBody s_Vault_answer, defScope s_Vault_answer, [], []⟩
def e_inverse_step : He.DefD := ⟨("inverse_step", none), "inverse_step", "inverse_step", defArgs s_inverse_step, defBody s_inverse_step, defScope s_inverse_step, [], []⟩
def e_Vault_recall : He.DefD := ⟨("Vault", some "recall"), "recall", "Vault.recall", defArgs s_Vault_recall, defBody s_Vault_recall, defScope s_Vault_recall, [], []⟩
def e__law_called : He.DefD := ⟨("_law_called", none), "_law_called", "_law_called", defArgs s__law_called, defBody s__law_called, defScope s__law_called, [], []⟩
def e_is_factor : He.DefD := ⟨("is_factor", none), "is_factor", "is_factor", defArgs s_is_factor, defBody s_is_factor, defScope s_is_factor, [], []⟩
def e_is_add : He.DefD := ⟨("is_add", none), "is_add", "is_add", defArgs s_is_add, defBody s_is_add, defScope s_is_add, [], []⟩
def e_is_table : He.DefD := ⟨("is_table", none), "is_table", "is_table", defArgs s_is_table, defBody s_is_table, defScope s_is_table, [], []⟩
def e_is_look : He.DefD := ⟨("is_look", none), "is_look", "is_look", defArgs s_is_look, defBody s_is_look, defScope s_is_look, [], []⟩
def e_is_step : He.DefD := ⟨("is_step", none), "is_step", "is_step", defArgs s_is_step, defBody s_is_step, defScope s_is_step, [], []⟩
def e_is_prime : He.DefD := ⟨("is_prime", none), "is_prime", "is_prime", defArgs s_is_prime, defBody s_is_prime, defScope s_is_prime, [], []⟩
def e_check_steps : He.DefD := ⟨("check_steps", none), "check_steps", "check_steps", defArgs s_check_steps, defBody s_check_steps, defScope s_check_steps, [], []⟩
def e_Program___init__ : He.DefD := ⟨("Program", some "__init__"), "__init__", "Program.__init__", defArgs s_Program___init__, defBody s_Program___init__, defScope s_Program___init__, [], []⟩
def e__law_move : He.DefD := ⟨("_law_move", none), "_law_move", "_law_move", defArgs s__law_move, defBody s__law_move, defScope s__law_move, [], []⟩
def e__law_equal : He.DefD := ⟨("_law_equal", none), "_law_equal", "_law_equal", defArgs s__law_equal, defBody s__law_equal, defScope s__law_equal, [], []⟩
def e__law_all_equal : He.DefD := ⟨("_law_all_equal", none), "_law_all_equal", "_law_all_equal", defArgs s__law_all_equal, defBody s__law_all_equal, defScope s__law_all_equal, [], []⟩
def e_Vault_memory : DI.PrD := ⟨"Vault", "memory", ⟨("Vault", some "memory"), "memory", "Vault.memory", defArgs s_Vault_memory, defBody s_Vault_memory, defScope s_Vault_memory, [], []⟩⟩
def e__law_given_back : He.DefD := ⟨("_law_given_back", none), "_law_given_back", "_law_given_back", defArgs s__law_given_back, defBody s__law_given_back, defScope s__law_given_back, [], []⟩
def e_law : He.DefD := ⟨("law", none), "law", "law", defArgs s_law, defBody s_law, defScope s_law, [], []⟩
def fn : List He.DefD := [e__law_mixed, e__law_numbers, e__law_draw, e__law_modulus, e_is_integer, e_is_number, e_check_numbers, e_Vault___init__, e__law_number, e__law_size, e__law_house, e_Vault_open_loans, e_Loan___init__, e_Vault_lend, e__law_is_prime, e__law_look, e__law_factors, e__law_gcd, e__law_step, e__law_places, e__law_loan, e_Vault_found, e_Vault_blocked, e_inverse_of, e_weights, e_interpolate, e_perform_steps, e_Vault_perform, e_Vault_advance, e_Vault_answer, e_inverse_step, e_Vault_recall, e__law_called, e_is_factor, e_is_add, e_is_table, e_is_look, e_is_step, e_is_prime, e_check_steps, e_Program___init__, e__law_move, e__law_equal, e__law_all_equal, e__law_given_back, e_law]
def prs : List DI.PrD := [e_Vault_memory]
def fa : List He.Fa := [.glo "_law_mixed", .free "range", .glo "_law_numbers", .free "len", .glo "_law_draw", .glo "_law_modulus", .free "isinstance", .free "int", .free "bool", .glo "is_integer", .glo "is_number", .free "list", .glo "BadMemory", .exc "BadMemory", .glo "check_numbers", .int "MODULUS"  1000000000, .int "MOST"  200, .noat "Vault" "loans", .noat "Vault" "cells", .noat "Vault" "modulus", .glo "Vault", .cls "Vault", .mkr "Vault", .glo "_law_number", .glo "_law_size", .free "max", .glo "_law_house", .free "enumerate", .meth "Vault" "open_loans", .noat "Loan" "done", .noat "Loan" "begun", .noat "Loan" "given", .noat "Loan" "places", .noat "Loan" "program", .glo "Loan", .cls "Loan", .mkr "Loan", .noat "Program" "steps", .noat "Program" "inputs", .noat "Program" "cells", .noat "Program" "modulus", .glo "Program", .cls "Program", .glo "BadStep", .exc "BadStep", .meth "Vault" "lend", .glo "_law_is_prime", .free "min", .free "tuple", .glo "_law_look", .glo "_law_factors", .glo "_law_gcd", .glo "_law_step", .glo "_law_places", .glo "_law_loan", .glo "BadTicket", .exc "BadTicket", .meth "Vault" "found", .free "any", .meth "Vault" "blocked", .glo "inverse_of", .glo "weights", .free "zip", .glo "interpolate", .glo "perform_steps", .meth "Vault" "perform", .glo "Busy", .exc "Busy", .meth "Vault" "advance", .meth "Vault" "answer", .glo "inverse_step", .meth "Vault" "recall", .exm "BadTicket" "Busy" false, .exm "Busy" "Busy" true, .exm "BadMemory" "Busy" false, .exm "BadStep" "Busy" false, .glo "BrimfulError", .exm "BrimfulError" "Busy" false, .glo "_law_called", .glo "is_factor", .int "FACTORS"  3, .glo "is_add", .glo "is_table", .glo "is_look", .glo "is_step", .glo "is_prime", .glo "check_steps", .int "CELLS"  60, .int "INPUTS"  60, .int "STEPS"  20000, .mkr "Program", .glo "_law_move", .free "str", .glo "_law_equal", .glo "_law_all_equal", .glo "_law_given_back", .glo "law"]
def exl (K : PySem.W.Frag) : List Bool := [PrD.ok K e_Vault_memory]
def ex (K : PySem.W.Frag) : Bool := (exl K).all id
abbrev R : PySem.W.OpenRow := PySem.W.OpenLaw.row PySem.Challenge.rw_brimful_k54_whole_loans_give_back
abbrev hk : PySem.W.Hook := DI.hookP 6 fa fn ex prs
def ob (s : PySem.W.SharedT) : (He.AlD × Bool) × List He.FnW := DI.obP 6 fa fn ex prs (HandSHeadRun.getT s)
theorem ob_eq (s : PySem.W.SharedT) : ob s = hk.obs s.abs := DI.obP_eq (HandSHeadRun.getT_eq s)
def loose : List Str := (["_wall", "BrimfulError", "BadStep", "BadMemory", "Busy", "BadTicket", "is_integer", "is_number", "is_prime", "inverse_of", "weights", "interpolate", "FACTORS", "is_factor", "is_table", "is_add", "is_look", "is_step", "inverse_step", "perform", "perform_steps", "check_steps", "MODULUS", "CELLS", "INPUTS", "STEPS", "check_numbers", "Program", "MOST", "Loan"] : List Str) ++ (["Vault", "_law_mixed", "_law_numbers", "_law_draw", "_law_equal", "_law_all_equal", "_law_gcd", "_law_factors", "_law_number", "_law_is_prime", "_law_modulus", "_law_look", "_law_step", "_law_places", "_law_loan", "_law_size", "_law_called", "_law_house", "_law_move", "_law_given_back"] : List Str)
theorem run (w : World) : HandSHeadRun.RunEq R (PySem.W.view R.prog [56]) hk ob 20000 loose w := by
  intro os
  kernel_rfl
end E

end

section
set_option Elab.async false
set_option linter.all false
set_option maxRecDepth 100000
set_option maxHeartbeats 4000000
/-! PL: plain reasoning about mirrors. -/
namespace DI
open PySem L2

/-- it comes to something of which Q holds -/
def Wp {α : Type} (x : Option α) (Q : α → Prop) : Prop := ∃ a, x = some a ∧ Q a
/-- what is wanted of a value, nothing raised -/
def okQ {α : Type} (Q : α → Hd → Prop) : Rs α → Prop
  | .ok a M => Q a M
  | .er _ _ => False
section
variable {α β : Type}
theorem Wp.imp {x : Option α} {Q R : α → Prop} (h : Wp x Q) (k : ∀ a, Q a → R a) : Wp x R := let ⟨a, e, q⟩ := h; ⟨a, e, k a q⟩
theorem Wp.ok {x : Option (Rs α)} {P : α → Hd → Prop} {Q : Rs α → Prop} (h : Wp x (okQ P)) (k : ∀ a M, P a M → Q (.ok a M)) : Wp x Q := by
  obtain ⟨o, e, q⟩ := h
  cases o with
  | ok a M => exact ⟨_, e, k a M q⟩
  | er c M => exact q.elim
theorem wp_law {x : Option (Rs D)} (h : Wp x (okQ fun d _ => d = .bl true)) : ∃ M, x = some (.ok (.bl true) M) := by
  obtain ⟨o, e, q⟩ := h
  cases o with
  | ok d M => exact ⟨M, by rw [e, q]⟩
  | er c M => exact q.elim
theorem wp_some {a : α} {Q : α → Prop} : Wp (some a) Q ↔ Q a := ⟨fun ⟨_, e, q⟩ => Option.some.inj e ▸ q, fun q => ⟨a, rfl, q⟩⟩
theorem wp_none {Q : α → Prop} : Wp none Q ↔ False := ⟨(fun ⟨_, e, _⟩ => nomatch e), False.elim⟩
theorem wp_ite {c : Prop} [Decidable c] {x y : Option α} {Q : α → Prop} : Wp (if c then x else y) Q ↔ if c then Wp x Q else Wp y Q := by split <;> rfl
theorem wp_bnd {x : Option (Rs α)} {k : α → Hd → Option (Rs β)} {Q : Rs β → Prop} : Wp (bnd x k) Q ↔ Wp x fun o => match o with
    | .ok a M => Wp (k a M) Q
    | .er c M => Q (.er c M) := by
  cases x with
  | none => simp [wp_none]
  | some o => cases o <;> simp [wp_some]
theorem wp_exB {x : Option (Rs α)} {r : Ev} {k : α → Hd → Option (Fl × Hd)} {Q : Fl × Hd → Prop} : Wp (exB x r k) Q ↔ Wp x fun o => match o with
    | .ok a M => Wp (k a M) Q
    | .er c M => Q (.xx c r, M) := by
  cases x with
  | none => simp [wp_none]
  | some o => cases o <;> simp [wp_some]
/-- x comes to o -/
theorem wp_of_eq {x : Option α} {o : α} {Q : α → Prop} (h : x = some o) (q : Q o) : Wp x Q := ⟨o, h, q⟩
theorem wp_ok {x : Option (Rs α)} {a : α} {M : Hd} {Q : Rs α → Prop} (h : x = some (.ok a M)) (q : Q (.ok a M)) : Wp x Q := ⟨_, h, q⟩
end
def nxQ (g : SF) (Q : Fl × Hd → Prop) : Fl × Hd → Prop := fun o => match o with
  | (.nx r, M) => Wp (g r M) Q
  | o => Q o
theorem wp_seq {f g : SF} {r : Ev} {M : Hd} {Q : Fl × Hd → Prop} : Wp (sSeq f g r M) Q ↔ Wp (f r M) (nxQ g Q) := by
  unfold sSeq
  cases f r M with
  | none => simp [wp_none]
  | some o => obtain ⟨fl, M1⟩ := o; cases fl <;> simp [wp_some, nxQ]
@[simp] theorem nxQ_nx {g : SF} {Q : Fl × Hd → Prop} {r : Ev} {M : Hd} : nxQ g Q (.nx r, M) ↔ Wp (g r M) Q := Iff.rfl
@[simp] theorem nxQ_rt {g : SF} {Q : Fl × Hd → Prop} {d : D} {M : Hd} : nxQ g Q (.rt d, M) ↔ Q (.rt d, M) := Iff.rfl
@[simp] theorem nxQ_bk {g : SF} {Q : Fl × Hd → Prop} {r : Ev} {M : Hd} : nxQ g Q (.bk r, M) ↔ Q (.bk r, M) := Iff.rfl
@[simp] theorem nxQ_ct {g : SF} {Q : Fl × Hd → Prop} {r : Ev} {M : Hd} : nxQ g Q (.ct r, M) ↔ Q (.ct r, M) := Iff.rfl
@[simp] theorem nxQ_xx {g : SF} {Q : Fl × Hd → Prop} {r : Ev} {c : Str} {M : Hd} : nxQ g Q (.xx c r, M) ↔ Q (.xx c r, M) := Iff.rfl
/-- a def's end -/
def fnQ (Q : Rs D → Prop) : Fl × Hd → Prop := fun o => match o with
  | (.rt d, M) => Q (.ok d M)
  | (.nx _, M) => Q (.ok .non M)
  | (.xx c _, M) => Q (.er c M)
  | _ => False
@[simp] theorem fnQ_rt {Q : Rs D → Prop} {d : D} {M : Hd} : fnQ Q (.rt d, M) ↔ Q (.ok d M) := Iff.rfl
@[simp] theorem fnQ_nx {Q : Rs D → Prop} {r : Ev} {M : Hd} : fnQ Q (.nx r, M) ↔ Q (.ok .non M) := Iff.rfl
@[simp] theorem fnQ_xx {Q : Rs D → Prop} {c : Str} {r : Ev} {M : Hd} : fnQ Q (.xx c r, M) ↔ Q (.er c M) := Iff.rfl
theorem wp_mir {n k : Nat} {g : SF} {ds : List D} {M : Hd} {Q : Rs D → Prop} (hk : ds.length = k) (h : Wp (g (startD n ds) M) (fnQ Q)) : Wp (mir n k g ds M) Q := by
  obtain ⟨o, e, q⟩ := h
  unfold mir
  rw [if_pos hk, e]
  obtain ⟨fl, M1⟩ := o
  cases fl with
  | nx r => exact ⟨_, rfl, q⟩
  | rt d => exact ⟨_, rfl, q⟩
  | xx c r => exact ⟨_, rfl, q⟩
  | bk r => exact q.elim
  | ct r => exact q.elim
/-! ### operators -/
section
variable {a b : Int} {M : Hd}
@[simp] theorem addG_int : addG (.int a) (.int b) M = some (.ok (.int (a + b)) M) := rfl
@[simp] theorem addIG_int : addIG (.int a) (.int b) M = some (.ok (.int (a + b)) M) := rfl
@[simp] theorem subG_int : subG (.int a) (.int b) M = some (.ok (.int (a - b)) M) := rfl
@[simp] theorem negG_int : negG (.int a) M = some (.ok (.int (-a)) M) := rfl
@[simp] theorem ltG_int : ltG (.int a) (.int b) M = some (.ok (.bl (decide (a < b))) M) := rfl
@[simp] theorem leG_int : leG (.int a) (.int b) M = some (.ok (.bl (decide (a ≤ b))) M) := rfl
@[simp] theorem gtG_int : gtG (.int a) (.int b) M = some (.ok (.bl (decide (b < a))) M) := rfl
@[simp] theorem geG_int : geG (.int a) (.int b) M = some (.ok (.bl (decide (b ≤ a))) M) := rfl
@[simp] theorem eqG_int : eqG (.int a) (.int b) M = some (.ok (.bl (decide (a = b))) M) := by rw [← Bool.beq_eq_decide_eq]; rfl
@[simp] theorem neG_int : neG (.int a) (.int b) M = some (.ok (.bl (!decide (a = b))) M) := by rw [← Bool.beq_eq_decide_eq]; rfl
@[simp] theorem eqG_str {x y : Str} : eqG (.str x) (.str y) M = some (.ok (.bl (decide (x = y))) M) := by rw [← Bool.beq_eq_decide_eq]; rfl
@[simp] theorem neG_str {x y : Str} : neG (.str x) (.str y) M = some (.ok (.bl (!decide (x = y))) M) := by rw [← Bool.beq_eq_decide_eq]; rfl
@[simp] theorem eqG_bl {x y : Bool} : eqG (.bl x) (.bl y) M = some (.ok (.bl (x == y)) M) := rfl
@[simp] theorem neG_bl {x y : Bool} : neG (.bl x) (.bl y) M = some (.ok (.bl (!(x == y))) M) := rfl
theorem mulG_r (h : -(2 ^ 64) < b ∧ b < 2 ^ 64) : mulG (.int a) (.int b) M = some (.ok (.int (a * b)) M) := by unfold mulG; exact if_pos (.inr (.inl h))
theorem mulG_l (h : -(2 ^ 64) < a ∧ a < 2 ^ 64) : mulG (.int a) (.int b) M = some (.ok (.int (a * b)) M) := by unfold mulG; exact if_pos (.inl h)
theorem mulIG_r (h : -(2 ^ 64) < b ∧ b < 2 ^ 64) : mulIG (.int a) (.int b) M = some (.ok (.int (a * b)) M) := by unfold mulIG; exact if_pos (.inr h)
theorem mulIG_l (h : -(2 ^ 64) < a ∧ a < 2 ^ 64) : mulIG (.int a) (.int b) M = some (.ok (.int (a * b)) M) := by unfold mulIG; exact if_pos (.inl h)
theorem log2_9000 {n : Nat} (h : n < 2 ^ 64) : n.log2 < 9000 := by
  by_cases h0 : n = 0
  · subst h0; decide
  · exact Nat.lt_trans ((Nat.log2_lt h0).mpr h) (by decide)
theorem divG_ok (h0 : 0 < b) (h : b < 2 ^ 64) : divG (.int a) (.int b) M = some (.ok (.int (a / b)) M) := by
  unfold divG
  exact if_pos ⟨h0, log2_9000 (by omega)⟩
theorem modG_ok (h0 : 0 < b) : modG (.int a) (.int b) M = some (.ok (.int (a % b)) M) := by
  unfold modG
  exact if_pos h0
theorem powG_ok (h : 0 ≤ b) (h1 : b ≤ 1000) (h2 : a.natAbs < 2 ^ 64) : powG (.int a) (.int b) M = some (.ok (.int (a ^ b.toNat)) M) := by
  unfold powG
  exact if_pos ⟨h, by omega, h2⟩
theorem powG_10 (h : 0 ≤ b) (h1 : b ≤ 1000) : powG (.int 10) (.int b) M = some (.ok (.int (10 ^ b.toNat)) M) := powG_ok h h1 (by decide)
theorem powG_2 (h : 0 ≤ b) (h1 : b ≤ 1000) : powG (.int 2) (.int b) M = some (.ok (.int (2 ^ b.toNat)) M) := powG_ok h h1 (by decide)
@[simp] theorem ixG_tup {ds : List D} {i : Int} : ixG (.tup ds) (.int i) M = pr M (atI ds i) := rfl
@[simp] theorem ixG_fl {ds : List D} {i : Int} : ixG (.fl ds) (.int i) M = pr M (atI ds i) := rfl
theorem ixG_ref {ds : List D} {i : Int} {p : Nat} (h : M[p]? = some (.lst ds)) : ixG (.ref p) (.int i) M = pr M (atI ds i) := by
  show (match M[p]? with | some (.lst ds) => pr M (atI ds i) | _ => none) = _
  rw [h]
theorem lenD_ref {ds : List D} {p : Nat} (h : M[p]? = some (.lst ds)) : lenD (.ref p) M = some (.ok (.int ds.length) M) := by
  show (match M[p]? with | some (.lst ds) => some (Rs.ok (D.int ds.length) M) | _ => none) = _
  rw [h]
@[simp] theorem lenD_tup {ds : List D} : lenD (.tup ds) M = some (.ok (.int ds.length) M) := rfl
@[simp] theorem lenD_fl {ds : List D} : lenD (.fl ds) M = some (.ok (.int ds.length) M) := rfl
theorem atI_nn {α : Type} {xs : List α} {i : Int} {v : α} (h0 : 0 ≤ i) (h : xs[i.toNat]? = some v) : atI xs i = some v := by
  have := atI_nat (xs := xs) (j := i.toNat) h
  rwa [Int.toNat_of_nonneg h0] at this
end
section
variable {a b c d : D} {l : List D} {M : Hd} {i : Int} {p q : Nat}
@[simp] theorem atI_c0 : atI (a :: l) 0 = some a := atI_nat (j := 0) rfl
@[simp] theorem atI_c1 : atI (a :: b :: l) 1 = some b := atI_nat (j := 1) rfl
@[simp] theorem atI_c2 : atI (a :: b :: c :: l) 2 = some c := atI_nat (j := 2) rfl
@[simp] theorem atI_c3 : atI (a :: b :: c :: d :: l) 3 = some d := atI_nat (j := 3) rfl
theorem ixN_c0 : ixN (l.length + 1) 0 = some 0 := by simp [ixN]
theorem ixN_2 : ixN 2 1 = some 1 := by simp [ixN]
theorem ixG_r : ixG (.ref p) (.int i) M = match M[p]? with | some (.lst ds) => pr M (atI ds i) | _ => none := rfl
theorem lenD_r : lenD (.ref p) M = match M[p]? with | some (.lst ds) => some (Rs.ok (D.int ds.length) M) | _ => none := rfl
theorem addG_r : addG (.ref p) (.ref q) M = match M[p]?, M[q]? with
    | some (.lst a), some (.lst b) => if a.length + b.length ≤ 16777216 then some (.ok (.ref M.length) (M ++ [.lst (a ++ b)])) else none
    | _, _ => none := rfl
theorem if_sm {α : Type} {i : Int} {a b : α} [Decidable (Sm i)] (h : -4611686018427387904 ≤ i ∧ i < 4611686018427387904) : (if Sm i then a else b) = a := if_pos h
theorem if_smP {i : Int} {a b : Prop} [Decidable (Sm i)] (h : -4611686018427387904 ≤ i ∧ i < 4611686018427387904) : (if Sm i then a else b) = a := if_pos h
theorem if_smP2 {i j : Int} {a b : Prop} [Decidable (Sm i ∧ Sm j)] (h : (-4611686018427387904 ≤ i ∧ i < 4611686018427387904) ∧ (-4611686018427387904 ≤ j ∧ j < 4611686018427387904)) : (if Sm i ∧ Sm j then a else b) = a := if_pos h
theorem set_app {R : Hd} {o o2 : O} : (R ++ [o]).set R.length o2 = R ++ [o2] := by simp
theorem get_mid {R Y : Hd} {o : O} : (R ++ o :: Y)[R.length]? = some o := by simp
theorem set_mid {R Y : Hd} {o o2 : O} : (R ++ o :: Y).set R.length o2 = R ++ o2 :: Y := by simp
theorem atI_rng {F : Nat → D} {c : Nat} {i : Int} (h0 : 0 ≤ i) (h1 : i < c) : atI ((List.range c).map F) i = some (F i.toNat) := by
  apply atI_nn h0
  rw [List.getElem?_map, List.getElem?_range (by omega)]
  rfl
@[simp] theorem intG_int : intG (.int i) M = some (.ok (.int i) M) := rfl
@[simp] theorem intG_bl {b : Bool} : intG (.bl b) M = some (.ok (.int (if b then 1 else 0)) M) := rfl
@[simp] theorem min2_int {j : Int} : min2 [.int i, .int j] M = some (.ok (.int (if j < i then j else i)) M) := rfl
@[simp] theorem max2_int {j : Int} : max2 [.int i, .int j] M = some (.ok (.int (if j > i then j else i)) M) := rfl
section
variable {T : Ty}
theorem isiG_non : isiG T .non M = some (.ok (.bl (Ty.non.sub T)) M) := rfl
theorem isiG_int : isiG T (.int i) M = some (.ok (.bl (Ty.int.sub T)) M) := rfl
theorem isiG_bl {b : Bool} : isiG T (.bl b) M = some (.ok (.bl (Ty.bl.sub T)) M) := rfl
theorem isiG_str {b : Str} : isiG T (.str b) M = some (.ok (.bl (Ty.str.sub T)) M) := rfl
theorem isiG_tup {b : List D} : isiG T (.tup b) M = some (.ok (.bl (Ty.tup.sub T)) M) := rfl
theorem isiG_fl {b : List D} : isiG T (.fl b) M = some (.ok (.bl (Ty.lst.sub T)) M) := rfl
end
end
section
variable {r : Ev} {M : Hd} {g g' : G2} {fa fb fc : EF}
theorem eChain_r : eChain g g' fa fb fc r M = bnd (fa r M) fun x M1 => bnd (fb r M1) fun y M2 => bnd (bnd (g x y M2) bOf) fun b M3 => if b = true then bnd (fc r M3) fun u M4 => g' y u M4 else some (.ok (.bl false) M3) := by
  unfold eChain
  congr 1; funext x M1; congr 1; funext y M2
  cases g x y M2 with
  | none => rfl
  | some o =>
    cases o with
    | er c M3 => rfl
    | ok d M3 =>
      cases d with
      | bl b => cases b <;> rfl
      | _ => rfl
theorem eAnd_r : eAnd fa fb r M = bnd (bnd (fa r M) bOf) fun b M3 => if b = true then fb r M3 else some (.ok (.bl false) M3) := by
  unfold eAnd
  cases fa r M with
  | none => rfl
  | some o =>
    cases o with
    | er c M3 => rfl
    | ok d M3 =>
      cases d with
      | bl b => cases b <;> rfl
      | _ => rfl
theorem eOr_r : eOr fa fb r M = bnd (bnd (fa r M) bOf) fun b M3 => if b = true then some (.ok (.bl true) M3) else fb r M3 := by
  unfold eOr
  cases fa r M with
  | none => rfl
  | some o =>
    cases o with
    | er c M3 => rfl
    | ok d M3 =>
      cases d with
      | bl b => cases b <;> rfl
      | _ => rfl
end
/-! ### loops -/
def lpQ (P : Ev → Hd → Prop) (Q : Fl × Hd → Prop) : Fl × Hd → Prop := fun o => match o with
  | (.nx r, M) => P r M
  | (.ct r, M) => P r M
  | (.bk r, M) => Q (.nx r, M)
  | o => Q o
section
variable {P : Ev → Hd → Prop} {Q : Fl × Hd → Prop} {r : Ev} {M : Hd} {d : D} {c : Str}
@[simp] theorem lpQ_nx : lpQ P Q (.nx r, M) ↔ P r M := Iff.rfl
@[simp] theorem lpQ_ct : lpQ P Q (.ct r, M) ↔ P r M := Iff.rfl
@[simp] theorem lpQ_bk : lpQ P Q (.bk r, M) ↔ Q (.nx r, M) := Iff.rfl
@[simp] theorem lpQ_rt : lpQ P Q (.rt d, M) ↔ Q (.rt d, M) := Iff.rfl
@[simp] theorem lpQ_xx : lpQ P Q (.xx c r, M) ↔ Q (.xx c r, M) := Iff.rfl
end
theorem wp_forL {gs : Gd} {t : Tg} {g : SF} {Q : Fl × Hd → Prop} {ds : List D} (P : Nat → Ev → Hd → Prop)
    (hs : ∀ i d r M, ds[i]? = some d → P i r M → Still gs M ∧ ∃ r1, t.put d r = some r1 ∧ Wp (g r1 M) (lpQ (P (i + 1)) Q))
    (hd : ∀ r M, P ds.length r M → Still gs M ∧ Q (.nx r, M)) {r : Ev} {M : Hd} (h0 : P 0 r M) : Wp (forL gs t g ds r M) Q := by
  have key : ∀ n i r M, ds.length - i = n → i ≤ ds.length → P i r M → Wp (forL gs t g (ds.drop i) r M) Q := by
    intro n
    induction n with
    | zero =>
      intro i r M hn hi p
      have : i = ds.length := by omega
      subst this
      obtain ⟨a, b⟩ := hd r M p
      rw [List.drop_length]
      unfold forL
      rw [if_pos a]
      exact wp_some.mpr b
    | succ n ih =>
      intro i r M hn hi p
      have hlt : i < ds.length := by omega
      have hdr : ds.drop i = ds[i] :: ds.drop (i + 1) := List.drop_eq_getElem_cons hlt
      obtain ⟨a, r1, e, o, e2, q⟩ := hs i ds[i] r M (List.getElem?_eq_getElem hlt) p
      rw [hdr]
      unfold forL
      rw [if_pos a, e]
      dsimp only
      rw [e2]
      obtain ⟨fl, M2⟩ := o
      cases fl with
      | nx r2 => exact ih (i + 1) r2 M2 (by omega) hlt q
      | ct r2 => exact ih (i + 1) r2 M2 (by omega) hlt q
      | bk r2 => exact wp_some.mpr q
      | rt d => exact wp_some.mpr q
      | xx c r2 => exact wp_some.mpr q
  exact key ds.length 0 r M (by omega) (Nat.zero_le _) h0
theorem wp_while {t : TF} {g : SF} {Q : Fl × Hd → Prop} {r : Ev} {M : Hd} {n : Nat} (P : Nat → Ev → Hd → Prop)
    (hs : ∀ n r M, P n r M → Wp (t r M) fun o => match o with
      | .ok b M1 => (b = false → Q (.nx r, M1)) ∧ (b = true → Wp (g r M1) (lpQ (fun r2 M2 => ∃ k, k < n ∧ P k r2 M2) Q))
      | .er _ _ => False) (h0 : P n r M) : Wp (sWhile t g r M) Q := by
  refine while_rule P (fun n r M p => ?_) n r M h0
  obtain ⟨o, e, q⟩ := hs n r M p
  cases o with
  | er c M1 => exact q.elim
  | ok b M1 =>
    cases b with
    | false => exact .inl ⟨M1, e, q.1 rfl⟩
    | true =>
      obtain ⟨o, e2, q2⟩ := q.2 rfl
      refine .inr ⟨M1, o, e, e2, ?_⟩
      obtain ⟨fl, M2⟩ := o
      cases fl <;> exact q2
/-- a comprehension, by a word of the turn, the list so far, the heap -/
theorem wp_lcL {gs : Gd} {n : Nat} {t : Tg} {c : TF} {f : EF} {r : Ev} {Q : Hd → Prop} {ds : List D} (P : Nat → Hd → Prop)
    (hs : ∀ i d M, ds[i]? = some d → P i M → Still gs M ∧ ∃ r1, t.put d r = some r1 ∧ Wp (c r1 M) fun o => match o with
      | .ok b M1 => (b = false → P (i + 1) M1) ∧ (b = true → Wp (f r1 M1) fun o => match o with
        | .ok x M2 => ∃ acc, M2[n]? = some (.lst acc) ∧ acc.length < 16777216 ∧ P (i + 1) (M2.set n (.lst (acc ++ [x])))
        | .er _ _ => False)
      | .er _ _ => False)
    (hd : ∀ M, P ds.length M → Still gs M ∧ Q M) {M : Hd} (h0 : P 0 M) : Wp (lcL gs n t c f r ds M) Q := by
  have key : ∀ k i M, ds.length - i = k → i ≤ ds.length → P i M → Wp (lcL gs n t c f r (ds.drop i) M) Q := by
    intro k
    induction k with
    | zero =>
      intro i M hn hi p
      have : i = ds.length := by omega
      subst this
      obtain ⟨a, b⟩ := hd M p
      rw [List.drop_length]
      unfold lcL
      rw [if_pos a]
      exact wp_some.mpr b
    | succ k ih =>
      intro i M hn hi p
      have hlt : i < ds.length := by omega
      have hdr : ds.drop i = ds[i] :: ds.drop (i + 1) := List.drop_eq_getElem_cons hlt
      obtain ⟨a, r1, e, o, e2, q⟩ := hs i ds[i] M (List.getElem?_eq_getElem hlt) p
      rw [hdr]
      unfold lcL
      rw [if_pos a, e]
      dsimp only
      rw [e2]
      cases o with
      | er c M1 => exact q.elim
      | ok b M1 =>
        cases b with
        | false => exact ih (i + 1) M1 (by omega) hlt (q.1 rfl)
        | true =>
          obtain ⟨o, e3, q3⟩ := q.2 rfl
          dsimp only
          rw [e3]
          cases o with
          | er c M2 => exact q3.elim
          | ok x M2 =>
            obtain ⟨acc, e4, hl, p'⟩ := q3
            dsimp only
            rw [e4]
            dsimp only
            rw [if_pos hl]
            exact ih (i + 1) _ (by omega) hlt p'
  exact key ds.length 0 M (by omega) (Nat.zero_le _) h0
theorem wp_eLc {it : IF} {t : Tg} {c : TF} {f : EF} {own : List Nat} {r : Ev} {M : Hd} {Q : Rs D → Prop} (h : Wp (it r M) fun o => match o with
    | .ok p M1 => Wp (lcL p.2 M1.length t c f (wip r own) p.1 (M1 ++ [.lst []])) fun M2 => Q (.ok (.ref M1.length) M2)
    | .er c M1 => Q (.er c M1)) : Wp (eLc it t c f own r M) Q := by
  unfold eLc
  rw [wp_bnd]
  refine h.imp ?_
  intro o
  cases o with
  | er c M1 => exact id
  | ok p M1 =>
    rintro ⟨M2, e, q⟩
    dsimp only
    rw [e]
    exact wp_some.mpr q
theorem ints_get {lo : Int} {n i : Nat} {d : D} (h : (intsD lo n)[i]? = some d) : i < n ∧ d = .int (lo + (i : Int)) := by
  unfold intsD at h
  rw [List.getElem?_map] at h
  by_cases hi : i < n
  · rw [List.getElem?_range hi] at h
    exact ⟨hi, (Option.some.inj h).symm⟩
  · rw [List.getElem?_eq_none (by simpa using hi)] at h
    cases h
@[simp] theorem ints_length (lo : Int) (n : Nat) : (intsD lo n).length = n := by unfold intsD; simp
end DI

end

section
set_option Elab.async false
set_option linter.all false
set_option maxRecDepth 100000
set_option maxHeartbeats 4000000
namespace G
open PySem PySem.Spec PyProof.Rows L2 DI
abbrev N__law_mixed : List Str := ["_law_number_here", "_law_k", "_law_step_here"]
abbrev P__law_mixed : List Str := ["_law_number_here", "_law_k"]
theorem sc__law_mixed : FnScope N__law_mixed P__law_mixed (defScope s__law_mixed) := ⟨rfl, rfl, rfl, by decide +kernel, rfl, by decide +kernel, by decide +kernel⟩
noncomputable def g__law_mixed : SF := (sSeq (sAsg 2 (eOp modG (eOp addG (eOp addG (eOp mulG (eVar 0) (eC (.int 48271))) (eOp mulG (eVar 1) (eC (.int 69621)))) (eC (.int 12345))) (eC (.int 2147483647))))
 (sRet (eOp modG (eOp addG (eOp mulG (eVar 2) (eOp addG (eOp divG (eVar 2) (eC (.int 65536))) (eC (.int 3)))) (eVar 1)) (eC (.int 2147483647)))))
noncomputable def m__law_mixed : List D → Hd → Option (Rs D) := mir N__law_mixed.length P__law_mixed.length g__law_mixed
theorem w__law_mixed {P : Program} {w : World} {K : PySem.W.Frag} {mg : Str → Option Value} {base : Heap} {f : Addr} {fd : FuncData} (F : FunD K "_law_mixed" "_law_mixed" (defArgs s__law_mixed) (defBody s__law_mixed) (defScope s__law_mixed) [] [] f fd) : FnOk P w K mg base (L2.CX P w) 1 f fd P__law_mixed (spD K mg 2 m__law_mixed) := by
  refine fn_mk (k := 0) (g := g__law_mixed) F sc__law_mixed fun cdv A outer s H E hr => ?_
  have nd := sc__law_mixed.nd
  have tk : Takes (cxOf (L2.CX P w) P w K mg base N__law_mixed "_law_mixed" (defScope s__law_mixed) f cdv A outer s H E) (fun cls d _ H => E cls d H) := takes_of rfl rfl rfl rfl
  have po : PassesOwn (model P w) (cxOf (L2.CX P w) P w K mg base N__law_mixed "_law_mixed" (defScope s__law_mixed) f cdv A outer s H E).A (cxOf (L2.CX P w) P w K mg base N__law_mixed "_law_mixed" (defScope s__law_mixed) f cdv A outer s H E).env (cxOf (L2.CX P w) P w K mg base N__law_mixed "_law_mixed" (defScope s__law_mixed) f cdv A outer s H E).xe := passes_of rfl
  exact (dss_cons (ds_set 2 nd (de_op op_mod od_mod (de_op op_addD od_add (de_op op_addD od_add (de_op op_mulD od_mul (de_var 0) de_int) (de_op op_mulD od_mul (de_var 1) de_int)) de_int) de_int))
 (dss_one (ds_ret (de_op op_mod od_mod (de_op op_addD od_add (de_op op_mulD od_mul (de_var 2) (de_op op_addD od_add (de_op op_fdivW od_div (de_var 2) de_int) de_int)) (de_var 1)) de_int))))
theorem d__law_mixed {P : Program} {w : World} {K : PySem.W.Frag} {mg : Str → Option Value} {base : Heap} {f : Addr} {fd : FuncData} (F : FunD K "_law_mixed" "_law_mixed" (defArgs s__law_mixed) (defBody s__law_mixed) (defScope s__law_mixed) [] [] f fd) (hmg : mg "_law_mixed" = some (.ref f)) : Dfn P w K mg base 1 "_law_mixed" 2 m__law_mixed :=
  dfn_of F hmg (FunD.bindsN F fun _ _ _ _ _ _ us hl => match us, hl with | [_, _], _ => rfl) (w__law_mixed F)

abbrev N__law_numbers : List Str := ["_law_script", "_law_numbers_here", "_law_cell", "_law_rest", "_law_k"]
abbrev P__law_numbers : List Str := ["_law_script"]
theorem sc__law_numbers : FnScope N__law_numbers P__law_numbers (defScope s__law_numbers) := ⟨rfl, rfl, rfl, by decide +kernel, rfl, by decide +kernel, by decide +kernel⟩
noncomputable def g__law_numbers : SF := (sSeq (sAsg 1 (eLst aNil))
 (sSeq (sFor (seqI (eVar 0)) (.nm 2) (sIf (tVal (eOp geG (eVar 2) (eOp powG (eC (.int 10)) (eC (.int 18))))) (sSeq (sAsg 3 (eVar 2))
 (sFor (rng1 (eC (.int 60))) (.nm 4) (sIf (tVal (eOp gtG (eVar 3) (eC (.int 0)))) (sSeq (sDrop (eLm appendG (eVar 1) (aCons (eOp modG (eVar 3) (eC (.int 1000000))) aNil)))
 (sAsg 3 (eOp divG (eVar 3) (eC (.int 1000000))))) sNil))) (sSeq (sDrop (eLm appendG (eVar 1) (aCons (eOp modG (eVar 2) (eC (.int 1000000))) aNil)))
 (sFor (rng1 (eC (.int 5))) (.nm 4) (sDrop (eLm appendG (eVar 1) (aCons (eOp modG (eCall m__law_mixed (aCons (eCall m__law_mixed (aCons (eOp modG (eVar 2) (eC (.int 2147483647))) (aCons (eVar 4) aNil))) (aCons (eOp addG (eVar 4) (eC (.int 7))) aNil))) (eC (.int 1000000))) aNil)))))))
 (sRet (eVar 1))))
noncomputable def m__law_numbers : List D → Hd → Option (Rs D) := mir N__law_numbers.length P__law_numbers.length g__law_numbers
theorem w__law_numbers {P : Program} {w : World} {K : PySem.W.Frag} {mg : Str → Option Value} {base : Heap} {f : Addr} {fd : FuncData} (F : FunD K "_law_numbers" "_law_numbers" (defArgs s__law_numbers) (defBody s__law_numbers) (defScope s__law_numbers) [] [] f fd) (b_range : mg "range" = none) (F__law_mixed : Dfn P w K mg base 1 "_law_mixed" 2 m__law_mixed) : FnOk P w K mg base (L2.CX P w) 2 f fd P__law_numbers (spD K mg 1 m__law_numbers) := by
  refine fn_mk (k := 1) (g := g__law_numbers) F sc__law_numbers fun cdv A outer s H E hr => ?_
  have nd := sc__law_numbers.nd
  have tk : Takes (cxOf (L2.CX P w) P w K mg base N__law_numbers "_law_numbers" (defScope s__law_numbers) f cdv A outer s H E) (fun cls d _ H => E cls d H) := takes_of rfl rfl rfl rfl
  have po : PassesOwn (model P w) (cxOf (L2.CX P w) P w K mg base N__law_numbers "_law_numbers" (defScope s__law_numbers) f cdv A outer s H E).A (cxOf (L2.CX P w) P w K mg base N__law_numbers "_law_numbers" (defScope s__law_numbers) f cdv A outer s H E).env (cxOf (L2.CX P w) P w K mg base N__law_numbers "_law_numbers" (defScope s__law_numbers) f cdv A outer s H E).xe := passes_of rfl
  exact (dss_cons (ds_set 1 nd (de_lst da_nil))
 (dss_cons (ds_for po rfl (di_seq (de_var 0)) (dg_nm 2 nd) (dss_one (ds_if (dt_cmp op_ge od_ge (de_var 2) (de_op op_pow od_pow de_int de_int)) (dss_cons (ds_set 3 nd (de_var 2))
 (dss_one (ds_for po rfl (di_rng1 de_int b_range) (dg_nm 4 nd) (dss_one (ds_if (dt_cmp op_gt od_gt (de_var 3) de_int) (dss_cons (ds_drop (de_append (de_var 1) (da_cons (de_op op_mod od_mod (de_var 3) de_int) da_nil)))
 (dss_one (ds_set 3 nd (de_op op_fdivW od_div (de_var 3) de_int)))) dss_nil))))) (dss_cons (ds_drop (de_append (de_var 1) (da_cons (de_op op_mod od_mod (de_var 2) de_int) da_nil)))
 (dss_one (ds_for po rfl (di_rng1 de_int b_range) (dg_nm 4 nd) (dss_one (ds_drop (de_append (de_var 1) (da_cons (de_op op_mod od_mod (de_call (F__law_mixed.mono (by decide)) tk hr (da_cons (de_call (F__law_mixed.mono (by decide)) tk hr (da_cons (de_op op_mod od_mod (de_var 2) de_int) (da_cons (de_var 4) da_nil))) (da_cons (de_op op_addD od_add (de_var 4) de_int) da_nil))) de_int) da_nil))))))))))
 (dss_one (ds_ret (de_var 1)))))
theorem d__law_numbers {P : Program} {w : World} {K : PySem.W.Frag} {mg : Str → Option Value} {base : Heap} {f : Addr} {fd : FuncData} (F : FunD K "_law_numbers" "_law_numbers" (defArgs s__law_numbers) (defBody s__law_numbers) (defScope s__law_numbers) [] [] f fd) (hmg : mg "_law_numbers" = some (.ref f)) (b_range : mg "range" = none) (F__law_mixed : Dfn P w K mg base 1 "_law_mixed" 2 m__law_mixed) : Dfn P w K mg base 2 "_law_numbers" 1 m__law_numbers :=
  dfn_of F hmg (FunD.bindsN F fun _ _ _ _ _ _ us hl => match us, hl with | [_], _ => rfl) (w__law_numbers F b_range F__law_mixed)

abbrev N__law_draw : List Str := ["_law_draws", "_law_at", "_law_first"]
abbrev P__law_draw : List Str := ["_law_draws"]
theorem sc__law_draw : FnScope N__law_draw P__law_draw (defScope s__law_draw) := ⟨rfl, rfl, rfl, by decide +kernel, rfl, by decide +kernel, by decide +kernel⟩
noncomputable def g__law_draw : SF := (sSeq (sAsg 1 (eOp ixG (eVar 0) (eC (.int 1))))
 (sSeq (sSetI (eOp addG (eVar 1) (eC (.int 1))) (eVar 0) (eC (.int 1)))
 (sSeq (sIf (tVal (eOp ltG (eVar 1) (eUn lenD (eOp ixG (eVar 0) (eC (.int 0)))))) (sRet (eOp ixG (eOp ixG (eVar 0) (eC (.int 0))) (eVar 1))) sNil)
 (sSeq (sAsg 2 (eOp addG (eC (.int 1)) (eVar 1)))
 (sSeq (sIf (tVal (eOp gtG (eUn lenD (eOp ixG (eVar 0) (eC (.int 0)))) (eC (.int 0)))) (sAsg 2 (eOp addG (eVar 2) (eOp mulG (eC (.int 1009)) (eOp ixG (eOp ixG (eVar 0) (eC (.int 0))) (eC (.int 0)))))) sNil)
 (sRet (eOp modG (eCall m__law_mixed (aCons (eCall m__law_mixed (aCons (eVar 2) (aCons (eVar 1) aNil))) (aCons (eC (.int 5)) aNil))) (eC (.int 1000000)))))))))
noncomputable def m__law_draw : List D → Hd → Option (Rs D) := mir N__law_draw.length P__law_draw.length g__law_draw
theorem w__law_draw {P : Program} {w : World} {K : PySem.W.Frag} {mg : Str → Option Value} {base : Heap} {f : Addr} {fd : FuncData} (F : FunD K "_law_draw" "_law_draw" (defArgs s__law_draw) (defBody s__law_draw) (defScope s__law_draw) [] [] f fd) (b_len : mg "len" = none) (F__law_mixed : Dfn P w K mg base 1 "_law_mixed" 2 m__law_mixed) : FnOk P w K mg base (L2.CX P w) 2 f fd P__law_draw (spD K mg 1 m__law_draw) := by
  refine fn_mk (k := 1) (g := g__law_draw) F sc__law_draw fun cdv A outer s H E hr => ?_
  have nd := sc__law_draw.nd
  have tk : Takes (cxOf (L2.CX P w) P w K mg base N__law_draw "_law_draw" (defScope s__law_draw) f cdv A outer s H E) (fun cls d _ H => E cls d H) := takes_of rfl rfl rfl rfl
  have po : PassesOwn (model P w) (cxOf (L2.CX P w) P w K mg base N__law_draw "_law_draw" (defScope s__law_draw) f cdv A outer s H E).A (cxOf (L2.CX P w) P w K mg base N__law_draw "_law_draw" (defScope s__law_draw) f cdv A outer s H E).env (cxOf (L2.CX P w) P w K mg base N__law_draw "_law_draw" (defScope s__law_draw) f cdv A outer s H E).xe := passes_of rfl
  exact (dss_cons (ds_set 1 nd (de_ix (de_var 0) de_int))
 (dss_cons (ds_setI (de_op op_addD od_add (de_var 1) de_int) (de_var 0) de_int)
 (dss_cons (ds_if (dt_cmp op_lt od_lt (de_var 1) (de_len (de_ix (de_var 0) de_int) b_len)) (dss_one (ds_ret (de_ix (de_ix (de_var 0) de_int) (de_var 1)))) dss_nil)
 (dss_cons (ds_set 2 nd (de_op op_addD od_add de_int (de_var 1)))
 (dss_cons (ds_if (dt_cmp op_gt od_gt (de_len (de_ix (de_var 0) de_int) b_len) de_int) (dss_one (ds_set 2 nd (de_op op_addD od_add (de_var 2) (de_op op_mulD od_mul de_int (de_ix (de_ix (de_var 0) de_int) de_int))))) dss_nil)
 (dss_one (ds_ret (de_op op_mod od_mod (de_call (F__law_mixed.mono (by decide)) tk hr (da_cons (de_call (F__law_mixed.mono (by decide)) tk hr (da_cons (de_var 2) (da_cons (de_var 1) da_nil))) (da_cons de_int da_nil))) de_int))))))))
theorem d__law_draw {P : Program} {w : World} {K : PySem.W.Frag} {mg : Str → Option Value} {base : Heap} {f : Addr} {fd : FuncData} (F : FunD K "_law_draw" "_law_draw" (defArgs s__law_draw) (defBody s__law_draw) (defScope s__law_draw) [] [] f fd) (hmg : mg "_law_draw" = some (.ref f)) (b_len : mg "len" = none) (F__law_mixed : Dfn P w K mg base 1 "_law_mixed" 2 m__law_mixed) : Dfn P w K mg base 2 "_law_draw" 1 m__law_draw :=
  dfn_of F hmg (FunD.bindsN F fun _ _ _ _ _ _ us hl => match us, hl with | [_], _ => rfl) (w__law_draw F b_len F__law_mixed)

abbrev N__law_modulus : List Str := ["_law_draws", "_law_pick"]
abbrev P__law_modulus : List Str := ["_law_draws"]
theorem sc__law_modulus : FnScope N__law_modulus P__law_modulus (defScope s__law_modulus) := ⟨rfl, rfl, rfl, by decide +kernel, rfl, by decide +kernel, by decide +kernel⟩
noncomputable def g__law_modulus : SF := (sSeq (sAsg 1 (eOp modG (eCall m__law_draw (aCons (eVar 0) aNil)) (eC (.int 8))))
 (sSeq (sIf (tVal (eOp eqG (eVar 1) (eC (.int 0)))) (sRet (eOp addG (eC (.int 2)) (eOp modG (eOp addG (eCall m__law_draw (aCons (eVar 0) aNil)) (eOp mulG (eC (.int 1000000)) (eCall m__law_draw (aCons (eVar 0) aNil)))) (eOp subG (eOp powG (eC (.int 10)) (eC (.int 9))) (eC (.int 1)))))) sNil)
 (sRet (eOp ixG (eLst (aCons (eC (.int 2)) (aCons (eC (.int 3)) (aCons (eC (.int 5)) (aCons (eC (.int 7)) (aCons (eC (.int 10)) (aCons (eC (.int 97)) (aCons (eOp powG (eC (.int 10)) (eC (.int 9))) (aCons (eC (.int 999999937)) aNil))))))))) (eOp modG (eCall m__law_draw (aCons (eVar 0) aNil)) (eC (.int 8)))))))
noncomputable def m__law_modulus : List D → Hd → Option (Rs D) := mir N__law_modulus.length P__law_modulus.length g__law_modulus
theorem w__law_modulus {P : Program} {w : World} {K : PySem.W.Frag} {mg : Str → Option Value} {base : Heap} {f : Addr} {fd : FuncData} (F : FunD K "_law_modulus" "_law_modulus" (defArgs s__law_modulus) (defBody s__law_modulus) (defScope s__law_modulus) [] [] f fd) (F__law_draw : Dfn P w K mg base 2 "_law_draw" 1 m__law_draw) : FnOk P w K mg base (L2.CX P w) 3 f fd P__law_modulus (spD K mg 1 m__law_modulus) := by
  refine fn_mk (k := 2) (g := g__law_modulus) F sc__law_modulus fun cdv A outer s H E hr => ?_
  have nd := sc__law_modulus.nd
  have tk : Takes (cxOf (L2.CX P w) P w K mg base N__law_modulus "_law_modulus" (defScope s__law_modulus) f cdv A outer s H E) (fun cls d _ H => E cls d H) := takes_of rfl rfl rfl rfl
  have po : PassesOwn (model P w) (cxOf (L2.CX P w) P w K mg base N__law_modulus "_law_modulus" (defScope s__law_modulus) f cdv A outer s H E).A (cxOf (L2.CX P w) P w K mg base N__law_modulus "_law_modulus" (defScope s__law_modulus) f cdv A outer s H E).env (cxOf (L2.CX P w) P w K mg base N__law_modulus "_law_modulus" (defScope s__law_modulus) f cdv A outer s H E).xe := passes_of rfl
  exact (dss_cons (ds_set 1 nd (de_op op_mod od_mod (de_call (F__law_draw.mono (by decide)) tk hr (da_cons (de_var 0) da_nil)) de_int))
 (dss_cons (ds_if (dt_cmp (op_eqP hr.units) od_eq (de_var 1) de_int) (dss_one (ds_ret (de_op op_addD od_add de_int (de_op op_mod od_mod (de_op op_addD od_add (de_call (F__law_draw.mono (by decide)) tk hr (da_cons (de_var 0) da_nil)) (de_op op_mulD od_mul de_int (de_call (F__law_draw.mono (by decide)) tk hr (da_cons (de_var 0) da_nil)))) (de_op op_sub od_sub (de_op op_pow od_pow de_int de_int) de_int))))) dss_nil)
 (dss_one (ds_ret (de_ix (de_lst (da_cons de_int (da_cons de_int (da_cons de_int (da_cons de_int (da_cons de_int (da_cons de_int (da_cons (de_op op_pow od_pow de_int de_int) (da_cons de_int da_nil))))))))) (de_op op_mod od_mod (de_call (F__law_draw.mono (by decide)) tk hr (da_cons (de_var 0) da_nil)) de_int))))))
theorem d__law_modulus {P : Program} {w : World} {K : PySem.W.Frag} {mg : Str → Option Value} {base : Heap} {f : Addr} {fd : FuncData} (F : FunD K "_law_modulus" "_law_modulus" (defArgs s__law_modulus) (defBody s__law_modulus) (defScope s__law_modulus) [] [] f fd) (hmg : mg "_law_modulus" = some (.ref f)) (F__law_draw : Dfn P w K mg base 2 "_law_draw" 1 m__law_draw) : Dfn P w K mg base 3 "_law_modulus" 1 m__law_modulus :=
  dfn_of F hmg (FunD.bindsN F fun _ _ _ _ _ _ us hl => match us, hl with | [_], _ => rfl) (w__law_modulus F F__law_draw)

abbrev N_is_integer : List Str := ["value"]
abbrev P_is_integer : List Str := ["value"]
theorem sc_is_integer : FnScope N_is_integer P_is_integer (defScope s_is_integer) := ⟨rfl, rfl, rfl, by decide +kernel, rfl, by decide +kernel, by decide +kernel⟩
noncomputable def g_is_integer : SF := (sRet (eAnd (eUn (isiG .int) (eVar 0)) (eNot (eUn (isiG .bl) (eVar 0)))))
noncomputable def m_is_integer : List D → Hd → Option (Rs D) := mir N_is_integer.length P_is_integer.length g_is_integer
theorem w_is_integer {P : Program} {w : World} {K : PySem.W.Frag} {mg : Str → Option Value} {base : Heap} {f : Addr} {fd : FuncData} (F : FunD K "is_integer" "is_integer" (defArgs s_is_integer) (defBody s_is_integer) (defScope s_is_integer) [] [] f fd) (b_isinstance : mg "isinstance" = none) (b_int : mg "int" = none) (b_bool : mg "bool" = none) : FnOk P w K mg base (L2.CX P w) 1 f fd P_is_integer (spD K mg 1 m_is_integer) := by
  refine fn_mk (k := 0) (g := g_is_integer) F sc_is_integer fun cdv A outer s H E hr => ?_
  have nd := sc_is_integer.nd
  have tk : Takes (cxOf (L2.CX P w) P w K mg base N_is_integer "is_integer" (defScope s_is_integer) f cdv A outer s H E) (fun cls d _ H => E cls d H) := takes_of rfl rfl rfl rfl
  have po : PassesOwn (model P w) (cxOf (L2.CX P w) P w K mg base N_is_integer "is_integer" (defScope s_is_integer) f cdv A outer s H E).A (cxOf (L2.CX P w) P w K mg base N_is_integer "is_integer" (defScope s_is_integer) f cdv A outer s H E).env (cxOf (L2.CX P w) P w K mg base N_is_integer "is_integer" (defScope s_is_integer) f cdv A outer s H E).xe := passes_of rfl
  exact (dss_one (ds_ret (de_and (de_isi .int (de_var 0) b_isinstance b_int PyProof.Rows.boot_int) (de_andE (de_not (de_isi .bl (de_var 0) b_isinstance b_bool PyProof.Rows.boot_bool))))))
theorem d_is_integer {P : Program} {w : World} {K : PySem.W.Frag} {mg : Str → Option Value} {base : Heap} {f : Addr} {fd : FuncData} (F : FunD K "is_integer" "is_integer" (defArgs s_is_integer) (defBody s_is_integer) (defScope s_is_integer) [] [] f fd) (hmg : mg "is_integer" = some (.ref f)) (b_isinstance : mg "isinstance" = none) (b_int : mg "int" = none) (b_bool : mg "bool" = none) : Dfn P w K mg base 1 "is_integer" 1 m_is_integer :=
  dfn_of F hmg (FunD.bindsN F fun _ _ _ _ _ _ us hl => match us, hl with | [_], _ => rfl) (w_is_integer F b_isinstance b_int b_bool)

abbrev N_is_number : List Str := ["value", "modulus"]
abbrev P_is_number : List Str := ["value", "modulus"]
theorem sc_is_number : FnScope N_is_number P_is_number (defScope s_is_number) := ⟨rfl, rfl, rfl, by decide +kernel, rfl, by decide +kernel, by decide +kernel⟩
noncomputable def g_is_number : SF := (sRet (eAnd (eCall m_is_integer (aCons (eVar 0) aNil)) (eChain leG ltG (eC (.int 0)) (eVar 0) (eVar 1))))
noncomputable def m_is_number : List D → Hd → Option (Rs D) := mir N_is_number.length P_is_number.length g_is_number
theorem w_is_number {P : Program} {w : World} {K : PySem.W.Frag} {mg : Str → Option Value} {base : Heap} {f : Addr} {fd : FuncData} (F : FunD K "is_number" "is_number" (defArgs s_is_number) (defBody s_is_number) (defScope s_is_number) [] [] f fd) (F_is_integer : Dfn P w K mg base 1 "is_integer" 1 m_is_integer) : FnOk P w K mg base (L2.CX P w) 2 f fd P_is_number (spD K mg 2 m_is_number) := by
  refine fn_mk (k := 1) (g := g_is_number) F sc_is_number fun cdv A outer s H E hr => ?_
  have nd := sc_is_number.nd
  have tk : Takes (cxOf (L2.CX P w) P w K mg base N_is_number "is_number" (defScope s_is_number) f cdv A outer s H E) (fun cls d _ H => E cls d H) := takes_of rfl rfl rfl rfl
  have po : PassesOwn (model P w) (cxOf (L2.CX P w) P w K mg base N_is_number "is_number" (defScope s_is_number) f cdv A outer s H E).A (cxOf (L2.CX P w) P w K mg base N_is_number "is_number" (defScope s_is_number) f cdv A outer s H E).env (cxOf (L2.CX P w) P w K mg base N_is_number "is_number" (defScope s_is_number) f cdv A outer s H E).xe := passes_of rfl
  exact (dss_one (ds_ret (de_and (de_call (F_is_integer.mono (by decide)) tk hr (da_cons (de_var 0) da_nil)) (de_andE (de_chain op_le od_le op_lt od_lt de_int (de_var 0) (de_var 1))))))
theorem d_is_number {P : Program} {w : World} {K : PySem.W.Frag} {mg : Str → Option Value} {base : Heap} {f : Addr} {fd : FuncData} (F : FunD K "is_number" "is_number" (defArgs s_is_number) (defBody s_is_number) (defScope s_is_number) [] [] f fd) (hmg : mg "is_number" = some (.ref f)) (F_is_integer : Dfn P w K mg base 1 "is_integer" 1 m_is_integer) : Dfn P w K mg base 2 "is_number" 2 m_is_number :=
  dfn_of F hmg (FunD.bindsN F fun _ _ _ _ _ _ us hl => match us, hl with | [_, _], _ => rfl) (w_is_number F F_is_integer)

abbrev N_check_numbers : List Str := ["values", "many", "modulus", "value"]
abbrev P_check_numbers : List Str := ["values", "many", "modulus"]
theorem sc_check_numbers : FnScope N_check_numbers P_check_numbers (defScope s_check_numbers) := ⟨rfl, rfl, rfl, by decide +kernel, rfl, by decide +kernel, by decide +kernel⟩
noncomputable def g_check_numbers : SF := (sSeq (sIf (tOr (tNot (tTru (eUn (isiG .lst) (eVar 0)))) (tVal (eOp neG (eUn lenD (eVar 0)) (eVar 1)))) (sRaise "BadMemory") sNil)
 (sFor (seqI (eVar 0)) (.nm 3) (sIf (tNot (tTru (eCall m_is_number (aCons (eVar 3) (aCons (eVar 2) aNil))))) (sRaise "BadMemory") sNil)))
noncomputable def m_check_numbers : List D → Hd → Option (Rs D) := mir N_check_numbers.length P_check_numbers.length g_check_numbers
theorem w_check_numbers {P : Program} {w : World} {K : PySem.W.Frag} {mg : Str → Option Value} {base : Heap} {f : Addr} {fd : FuncData} (F : FunD K "check_numbers" "check_numbers" (defArgs s_check_numbers) (defBody s_check_numbers) (defScope s_check_numbers) [] [] f fd) (b_isinstance : mg "isinstance" = none) (b_list : mg "list" = none) (b_len : mg "len" = none) (F_is_number : Dfn P w K mg base 2 "is_number" 2 m_is_number) (x_BadMemory : XCl K mg "BadMemory") : FnOk P w K mg base (L2.CX P w) 3 f fd P_check_numbers (spD K mg 3 m_check_numbers) := by
  refine fn_mk (k := 2) (g := g_check_numbers) F sc_check_numbers fun cdv A outer s H E hr => ?_
  have nd := sc_check_numbers.nd
  have tk : Takes (cxOf (L2.CX P w) P w K mg base N_check_numbers "check_numbers" (defScope s_check_numbers) f cdv A outer s H E) (fun cls d _ H => E cls d H) := takes_of rfl rfl rfl rfl
  have po : PassesOwn (model P w) (cxOf (L2.CX P w) P w K mg base N_check_numbers "check_numbers" (defScope s_check_numbers) f cdv A outer s H E).A (cxOf (L2.CX P w) P w K mg base N_check_numbers "check_numbers" (defScope s_check_numbers) f cdv A outer s H E).env (cxOf (L2.CX P w) P w K mg base N_check_numbers "check_numbers" (defScope s_check_numbers) f cdv A outer s H E).xe := passes_of rfl
  exact (dss_cons (ds_if (dt_w (dw_or (dt_not (dt_tru (de_isi .lst (de_var 0) b_isinstance b_list PyProof.Rows.boot_list))) (dw_or1 (dt_cmp (op_neP hr.units) od_ne (de_len (de_var 0) b_len) (de_var 1))))) (dss_one (ds_raise rfl tk x_BadMemory)) dss_nil)
 (dss_one (ds_for po rfl (di_seq (de_var 0)) (dg_nm 3 nd) (dss_one (ds_if (dt_not (dt_tru (de_call (F_is_number.mono (by decide)) tk hr (da_cons (de_var 3) (da_cons (de_var 2) da_nil))))) (dss_one (ds_raise rfl tk x_BadMemory)) dss_nil)))))
theorem d_check_numbers {P : Program} {w : World} {K : PySem.W.Frag} {mg : Str → Option Value} {base : Heap} {f : Addr} {fd : FuncData} (F : FunD K "check_numbers" "check_numbers" (defArgs s_check_numbers) (defBody s_check_numbers) (defScope s_check_numbers) [] [] f fd) (hmg : mg "check_numbers" = some (.ref f)) (b_isinstance : mg "isinstance" = none) (b_list : mg "list" = none) (b_len : mg "len" = none) (F_is_number : Dfn P w K mg base 2 "is_number" 2 m_is_number) (x_BadMemory : XCl K mg "BadMemory") : Dfn P w K mg base 3 "check_numbers" 3 m_check_numbers :=
  dfn_of F hmg (FunD.bindsN F fun _ _ _ _ _ _ us hl => match us, hl with | [_, _, _], _ => rfl) (w_check_numbers F b_isinstance b_list b_len F_is_number x_BadMemory)

abbrev N_Vault___init__ : List Str := ["self", "memory", "modulus"]
abbrev P_Vault___init__ : List Str := ["self", "memory", "modulus"]
theorem sc_Vault___init__ : FnScope N_Vault___init__ P_Vault___init__ (defScope s_Vault___init__) := ⟨rfl, rfl, rfl, by decide +kernel, rfl, by decide +kernel, by decide +kernel⟩
noncomputable def g_Vault___init__ : SF := (sSeq (sIf (tOr (tNot (tTru (eCall m_is_integer (aCons (eVar 2) aNil)))) (tNot (tVal (eChain leG leG (eC (.int 2)) (eVar 2) (eC (.int 1000000000)))))) (sRaise "BadMemory") sNil)
 (sSeq (sIf (tOr (tNot (tTru (eUn (isiG .lst) (eVar 1)))) (tNot (tVal (eChain leG leG (eC (.int 1)) (eUn lenD (eVar 1)) (eC (.int 200)))))) (sRaise "BadMemory") sNil)
 (sSeq (sDrop (eCall m_check_numbers (aCons (eVar 1) (aCons (eUn lenD (eVar 1)) (aCons (eVar 2) aNil)))))
 (sSeq (sFld "Vault" "modulus" (eVar 0) (eVar 2))
 (sSeq (sFld "Vault" "cells" (eVar 0) (eUn listG (eVar 1)))
 (sFld "Vault" "loans" (eVar 0) (eLst aNil)))))))
noncomputable def m_Vault___init__ : List D → Hd → Option (Rs D) := mir N_Vault___init__.length P_Vault___init__.length g_Vault___init__
theorem w_Vault___init__ {P : Program} {w : World} {K : PySem.W.Frag} {mg : Str → Option Value} {base : Heap} {f : Addr} {fd : FuncData} (F : FunD K "__init__" "Vault.__init__" (defArgs s_Vault___init__) (defBody s_Vault___init__) (defScope s_Vault___init__) [] [] f fd) (b_isinstance : mg "isinstance" = none) (b_list : mg "list" = none) (b_len : mg "len" = none) (c_MODULUS : ∃ u, mg "MODULUS" = some u ∧ RelV (.int  1000000000) u) (c_MOST : ∃ u, mg "MOST" = some u ∧ RelV (.int  200) u) (F_is_integer : Dfn P w K mg base 1 "is_integer" 1 m_is_integer) (F_check_numbers : Dfn P w K mg base 3 "check_numbers" 3 m_check_numbers) (x_BadMemory : XCl K mg "BadMemory") (cf_Vault : ClsK K mg "Vault" ["modulus", "cells", "loans"]) : FnOk P w K mg base (L2.CX P w) 4 f fd P_Vault___init__ (spD K mg 3 m_Vault___init__) := by
  refine fn_mk (k := 3) (g := g_Vault___init__) F sc_Vault___init__ fun cdv A outer s H E hr => ?_
  have nd := sc_Vault___init__.nd
  have tk : Takes (cxOf (L2.CX P w) P w K mg base N_Vault___init__ "Vault.__init__" (defScope s_Vault___init__) f cdv A outer s H E) (fun cls d _ H => E cls d H) := takes_of rfl rfl rfl rfl
  have po : PassesOwn (model P w) (cxOf (L2.CX P w) P w K mg base N_Vault___init__ "Vault.__init__" (defScope s_Vault___init__) f cdv A outer s H E).A (cxOf (L2.CX P w) P w K mg base N_Vault___init__ "Vault.__init__" (defScope s_Vault___init__) f cdv A outer s H E).env (cxOf (L2.CX P w) P w K mg base N_Vault___init__ "Vault.__init__" (defScope s_Vault___init__) f cdv A outer s H E).xe := passes_of rfl
  exact (dss_cons (ds_if (dt_w (dw_or (dt_not (dt_tru (de_call (F_is_integer.mono (by decide)) tk hr (da_cons (de_var 2) da_nil)))) (dw_or1 (dt_not (dt_chain op_le od_le op_le od_le de_int (de_var 2) (de_gi c_MODULUS)))))) (dss_one (ds_raise rfl tk x_BadMemory)) dss_nil)
 (dss_cons (ds_if (dt_w (dw_or (dt_not (dt_tru (de_isi .lst (de_var 1) b_isinstance b_list PyProof.Rows.boot_list))) (dw_or1 (dt_not (dt_chain op_le od_le op_le od_le de_int (de_len (de_var 1) b_len) (de_gi c_MOST)))))) (dss_one (ds_raise rfl tk x_BadMemory)) dss_nil)
 (dss_cons (ds_drop (de_call (F_check_numbers.mono (by decide)) tk hr (da_cons (de_var 1) (da_cons (de_len (de_var 1) b_len) (da_cons (de_var 2) da_nil)))))
 (dss_cons (ds_fld cf_Vault (List.Mem.head _) (de_var 0) (de_var 2))
 (dss_cons (ds_fld cf_Vault (List.Mem.tail _ (List.Mem.head _)) (de_var 0) (de_list (de_var 1) b_list))
 (dss_one (ds_fld cf_Vault (List.Mem.tail _ (List.Mem.tail _ (List.Mem.head _))) (de_var 0) (de_lst da_nil))))))))
theorem d_Vault___init__ {P : Program} {w : World} {K : PySem.W.Frag} {mg : Str → Option Value} {base : Heap} {f : Addr} {fd : FuncData} (F : FunD K "__init__" "Vault.__init__" (defArgs s_Vault___init__) (defBody s_Vault___init__) (defScope s_Vault___init__) [] [] f fd) {C : Addr} (hC : mg "Vault" = some (.ref C)) (hm : Mk K C f) (b_isinstance : mg "isinstance" = none) (b_list : mg "list" = none) (b_len : mg "len" = none) (c_MODULUS : ∃ u, mg "MODULUS" = some u ∧ RelV (.int  1000000000) u) (c_MOST : ∃ u, mg "MOST" = some u ∧ RelV (.int  200) u) (F_is_integer : Dfn P w K mg base 1 "is_integer" 1 m_is_integer) (F_check_numbers : Dfn P w K mg base 3 "check_numbers" 3 m_check_numbers) (x_BadMemory : XCl K mg "BadMemory") (cf_Vault : ClsK K mg "Vault" ["modulus", "cells", "loans"]) : MkI P w K mg base 4 "Vault" 3 m_Vault___init__ :=
  ⟨fun ds M o e => mir_len e, C, f, fd, P_Vault___init__, hC, hm, (FunD.bindsN F fun _ _ _ _ _ _ us hl => match us, hl with | [_, _, _], _ => rfl), (w_Vault___init__ F b_isinstance b_list b_len c_MODULUS c_MOST F_is_integer F_check_numbers x_BadMemory cf_Vault)⟩

abbrev N__law_number : List Str := ["_law_draws", "_law_modulus_here", "_law_pick"]
abbrev P__law_number : List Str := ["_law_draws", "_law_modulus_here"]
theorem sc__law_number : FnScope N__law_number P__law_number (defScope s__law_number) := ⟨rfl, rfl, rfl, by decide +kernel, rfl, by decide +kernel, by decide +kernel⟩
noncomputable def g__law_number : SF := (sSeq (sAsg 2 (eOp modG (eCall m__law_draw (aCons (eVar 0) aNil)) (eC (.int 6))))
 (sSeq (sIf (tVal (eOp eqG (eVar 2) (eC (.int 0)))) (sRet (eOp subG (eVar 1) (eC (.int 1)))) sNil)
 (sSeq (sIf (tVal (eOp eqG (eVar 2) (eC (.int 1)))) (sRet (eC (.int 0))) sNil)
 (sSeq (sIf (tVal (eOp eqG (eVar 2) (eC (.int 2)))) (sRet (eC (.int 1))) sNil)
 (sRet (eOp modG (eOp addG (eCall m__law_draw (aCons (eVar 0) aNil)) (eOp mulG (eC (.int 1000000)) (eCall m__law_draw (aCons (eVar 0) aNil)))) (eVar 1)))))))
noncomputable def m__law_number : List D → Hd → Option (Rs D) := mir N__law_number.length P__law_number.length g__law_number
theorem w__law_number {P : Program} {w : World} {K : PySem.W.Frag} {mg : Str → Option Value} {base : Heap} {f : Addr} {fd : FuncData} (F : FunD K "_law_number" "_law_number" (defArgs s__law_number) (defBody s__law_number) (defScope s__law_number) [] [] f fd) (F__law_draw : Dfn P w K mg base 2 "_law_draw" 1 m__law_draw) : FnOk P w K mg base (L2.CX P w) 3 f fd P__law_number (spD K mg 2 m__law_number) := by
  refine fn_mk (k := 2) (g := g__law_number) F sc__law_number fun cdv A outer s H E hr => ?_
  have nd := sc__law_number.nd
  have tk : Takes (cxOf (L2.CX P w) P w K mg base N__law_number "_law_number" (defScope s__law_number) f cdv A outer s H E) (fun cls d _ H => E cls d H) := takes_of rfl rfl rfl rfl
  have po : PassesOwn (model P w) (cxOf (L2.CX P w) P w K mg base N__law_number "_law_number" (defScope s__law_number) f cdv A outer s H E).A (cxOf (L2.CX P w) P w K mg base N__law_number "_law_number" (defScope s__law_number) f cdv A outer s H E).env (cxOf (L2.CX P w) P w K mg base N__law_number "_law_number" (defScope s__law_number) f cdv A outer s H E).xe := passes_of rfl
  exact (dss_cons (ds_set 2 nd (de_op op_mod od_mod (de_call (F__law_draw.mono (by decide)) tk hr (da_cons (de_var 0) da_nil)) de_int))
 (dss_cons (ds_if (dt_cmp (op_eqP hr.units) od_eq (de_var 2) de_int) (dss_one (ds_ret (de_op op_sub od_sub (de_var 1) de_int))) dss_nil)
 (dss_cons (ds_if (dt_cmp (op_eqP hr.units) od_eq (de_var 2) de_int) (dss_one (ds_ret de_int)) dss_nil)
 (dss_cons (ds_if (dt_cmp (op_eqP hr.units) od_eq (de_var 2) de_int) (dss_one (ds_ret de_int)) dss_nil)
 (dss_one (ds_ret (de_op op_mod od_mod (de_op op_addD od_add (de_call (F__law_draw.mono (by decide)) tk hr (da_cons (de_var 0) da_nil)) (de_op op_mulD od_mul de_int (de_call (F__law_draw.mono (by decide)) tk hr (da_cons (de_var 0) da_nil)))) (de_var 1))))))))
theorem d__law_number {P : Program} {w : World} {K : PySem.W.Frag} {mg : Str → Option Value} {base : Heap} {f : Addr} {fd : FuncData} (F : FunD K "_law_number" "_law_number" (defArgs s__law_number) (defBody s__law_number) (defScope s__law_number) [] [] f fd) (hmg : mg "_law_number" = some (.ref f)) (F__law_draw : Dfn P w K mg base 2 "_law_draw" 1 m__law_draw) : Dfn P w K mg base 3 "_law_number" 2 m__law_number :=
  dfn_of F hmg (FunD.bindsN F fun _ _ _ _ _ _ us hl => match us, hl with | [_, _], _ => rfl) (w__law_number F F__law_draw)

abbrev N__law_size : List Str := ["_law_draws"]
abbrev P__law_size : List Str := ["_law_draws"]
theorem sc__law_size : FnScope N__law_size P__law_size (defScope s__law_size) := ⟨rfl, rfl, rfl, by decide +kernel, rfl, by decide +kernel, by decide +kernel⟩
noncomputable def g__law_size : SF := (sRet (eOp ixG (eLst (aCons (eC (.int 1)) (aCons (eC (.int 2)) (aCons (eC (.int 3)) (aCons (eC (.int 4)) (aCons (eC (.int 5)) (aCons (eC (.int 6)) (aCons (eC (.int 7)) (aCons (eC (.int 8)) (aCons (eC (.int 9)) (aCons (eC (.int 10)) (aCons (eC (.int 60)) (aCons (eC (.int 199)) (aCons (eC (.int 200)) aNil)))))))))))))) (eOp modG (eCall m__law_draw (aCons (eVar 0) aNil)) (eC (.int 13)))))
noncomputable def m__law_size : List D → Hd → Option (Rs D) := mir N__law_size.length P__law_size.length g__law_size
theorem w__law_size {P : Program} {w : World} {K : PySem.W.Frag} {mg : Str → Option Value} {base : Heap} {f : Addr} {fd : FuncData} (F : FunD K "_law_size" "_law_size" (defArgs s__law_size) (defBody s__law_size) (defScope s__law_size) [] [] f fd) (F__law_draw : Dfn P w K mg base 2 "_law_draw" 1 m__law_draw) : FnOk P w K mg base (L2.CX P w) 3 f fd P__law_size (spD K mg 1 m__law_size) := by
  refine fn_mk (k := 2) (g := g__law_size) F sc__law_size fun cdv A outer s H E hr => ?_
  have nd := sc__law_size.nd
  have tk : Takes (cxOf (L2.CX P w) P w K mg base N__law_size "_law_size" (defScope s__law_size) f cdv A outer s H E) (fun cls d _ H => E cls d H) := takes_of rfl rfl rfl rfl
  have po : PassesOwn (model P w) (cxOf (L2.CX P w) P w K mg base N__law_size "_law_size" (defScope s__law_size) f cdv A outer s H E).A (cxOf (L2.CX P w) P w K mg base N__law_size "_law_size" (defScope s__law_size) f cdv A outer s H E).env (cxOf (L2.CX P w) P w K mg base N__law_size "_law_size" (defScope s__law_size) f cdv A outer s H E).xe := passes_of rfl
  exact (dss_one (ds_ret (de_ix (de_lst (da_cons de_int (da_cons de_int (da_cons de_int (da_cons de_int (da_cons de_int (da_cons de_int (da_cons de_int (da_cons de_int (da_cons de_int (da_cons de_int (da_cons de_int (da_cons de_int (da_cons de_int da_nil)))))))))))))) (de_op op_mod od_mod (de_call (F__law_draw.mono (by decide)) tk hr (da_cons (de_var 0) da_nil)) de_int))))
theorem d__law_size {P : Program} {w : World} {K : PySem.W.Frag} {mg : Str → Option Value} {base : Heap} {f : Addr} {fd : FuncData} (F : FunD K "_law_size" "_law_size" (defArgs s__law_size) (defBody s__law_size) (defScope s__law_size) [] [] f fd) (hmg : mg "_law_size" = some (.ref f)) (F__law_draw : Dfn P w K mg base 2 "_law_draw" 1 m__law_draw) : Dfn P w K mg base 3 "_law_size" 1 m__law_size :=
  dfn_of F hmg (FunD.bindsN F fun _ _ _ _ _ _ us hl => match us, hl with | [_], _ => rfl) (w__law_size F F__law_draw)

abbrev N__law_house : List Str := ["_law_draws", "_law_modulus_here", "_law_memory", "_law_k"]
abbrev P__law_house : List Str := ["_law_draws", "_law_modulus_here"]
theorem sc__law_house : FnScope N__law_house P__law_house (defScope s__law_house) := ⟨rfl, rfl, rfl, by decide +kernel, rfl, by decide +kernel, by decide +kernel⟩
noncomputable def g__law_house : SF := (sSeq (sAsg 2 (eLc (rng1 (eCB max2 (aCons (eC (.int 3)) (aCons (eCall m__law_size (aCons (eVar 0) aNil)) aNil)))) (.nm 3) tYes (eCall m__law_number (aCons (eVar 0) (aCons (eVar 1) aNil))) [3]))
 (sRet (eLst (aCons (eMake "Vault" m_Vault___init__ (aCons (eUn listG (eVar 2)) (aCons (eVar 1) aNil))) (aCons (eVar 2) (aCons (eC (.int 0)) (aCons (eC (.int 0)) (aCons (eC (.int 0)) aNil))))))))
noncomputable def m__law_house : List D → Hd → Option (Rs D) := mir N__law_house.length P__law_house.length g__law_house
theorem w__law_house {P : Program} {w : World} {K : PySem.W.Frag} {mg : Str → Option Value} {base : Heap} {f : Addr} {fd : FuncData} (F : FunD K "_law_house" "_law_house" (defArgs s__law_house) (defBody s__law_house) (defScope s__law_house) [] [] f fd) (b_max : mg "max" = none) (b_range : mg "range" = none) (b_list : mg "list" = none) (F__law_size : Dfn P w K mg base 3 "_law_size" 1 m__law_size) (F__law_number : Dfn P w K mg base 3 "_law_number" 2 m__law_number) (F_Vault___init__ : MkI P w K mg base 4 "Vault" 3 m_Vault___init__) : FnOk P w K mg base (L2.CX P w) 6 f fd P__law_house (spD K mg 2 m__law_house) := by
  refine fn_mk (k := 5) (g := g__law_house) F sc__law_house fun cdv A outer s H E hr => ?_
  have nd := sc__law_house.nd
  have tk : Takes (cxOf (L2.CX P w) P w K mg base N__law_house "_law_house" (defScope s__law_house) f cdv A outer s H E) (fun cls d _ H => E cls d H) := takes_of rfl rfl rfl rfl
  have po : PassesOwn (model P w) (cxOf (L2.CX P w) P w K mg base N__law_house "_law_house" (defScope s__law_house) f cdv A outer s H E).A (cxOf (L2.CX P w) P w K mg base N__law_house "_law_house" (defScope s__law_house) f cdv A outer s H E).env (cxOf (L2.CX P w) P w K mg base N__law_house "_law_house" (defScope s__law_house) f cdv A outer s H E).xe := passes_of rfl
  exact (dss_cons (ds_setLc (own := [("_law_k", 3)]) (i := 2) rfl nd rfl rfl (sw_true rfl rfl rfl (by decide +kernel)) (di_rng1 (de_max2 rfl (da_cons de_int (da_cons (de_call (F__law_size.mono (by decide)) tk hr (da_cons (de_var 0) da_nil)) da_nil)) b_max) b_range) (blkOk_by (own := [("_law_k", 3)]) (N := N__law_house) (sc := defScope s__law_house) (by decide +kernel)) (by decide) (fun _ _ _ _ _ => (dg_nm 3 nd)) (fun _ _ _ _ _ => dts_nil) (fun _ _ _ _ _ => (de_call (F__law_number.mono (by decide)) takes0 hr (da_cons (de_var 0) (da_cons (de_var 1) da_nil)))))
 (dss_one (ds_ret (de_lst (da_cons (de_make (F_Vault___init__.mono (by decide)) tk hr (da_cons (de_list (de_var 2) b_list) (da_cons (de_var 1) da_nil))) (da_cons (de_var 2) (da_cons de_int (da_cons de_int (da_cons de_int da_nil)))))))))
theorem d__law_house {P : Program} {w : World} {K : PySem.W.Frag} {mg : Str → Option Value} {base : Heap} {f : Addr} {fd : FuncData} (F : FunD K "_law_house" "_law_house" (defArgs s__law_house) (defBody s__law_house) (defScope s__law_house) [] [] f fd) (hmg : mg "_law_house" = some (.ref f)) (b_max : mg "max" = none) (b_range : mg "range" = none) (b_list : mg "list" = none) (F__law_size : Dfn P w K mg base 3 "_law_size" 1 m__law_size) (F__law_number : Dfn P w K mg base 3 "_law_number" 2 m__law_number) (F_Vault___init__ : MkI P w K mg base 4 "Vault" 3 m_Vault___init__) : Dfn P w K mg base 6 "_law_house" 2 m__law_house :=
  dfn_of F hmg (FunD.bindsN F fun _ _ _ _ _ _ us hl => match us, hl with | [_, _], _ => rfl) (w__law_house F b_max b_range b_list F__law_size F__law_number F_Vault___init__)

abbrev N_Vault_open_loans : List Str := ["self", "loan", "ticket"]
abbrev P_Vault_open_loans : List Str := ["self"]
theorem sc_Vault_open_loans : FnScope N_Vault_open_loans P_Vault_open_loans (defScope s_Vault_open_loans) := ⟨rfl, rfl, rfl, by decide +kernel, rfl, by decide +kernel, by decide +kernel⟩
noncomputable def g_Vault_open_loans : SF := (sRet (eLc (enumI (eUn (fldG "Vault" "loans") (eVar 0))) (.tp [2, 1]) (tVal (isNN (eVar 1))) (eVar 2) [2, 1]))
noncomputable def m_Vault_open_loans : List D → Hd → Option (Rs D) := mir N_Vault_open_loans.length P_Vault_open_loans.length g_Vault_open_loans
theorem w_Vault_open_loans {P : Program} {w : World} {K : PySem.W.Frag} {mg : Str → Option Value} {base : Heap} {f : Addr} {fd : FuncData} (F : FunD K "open_loans" "Vault.open_loans" (defArgs s_Vault_open_loans) (defBody s_Vault_open_loans) (defScope s_Vault_open_loans) [] [] f fd) (b_enumerate : mg "enumerate" = none) (cf_Vault : ClsK K mg "Vault" ["modulus", "cells", "loans"]) : FnOk P w K mg base (L2.CX P w) 1 f fd P_Vault_open_loans (spD K mg 1 m_Vault_open_loans) := by
  refine fn_mk (k := 0) (g := g_Vault_open_loans) F sc_Vault_open_loans fun cdv A outer s H E hr => ?_
  have nd := sc_Vault_open_loans.nd
  have tk : Takes (cxOf (L2.CX P w) P w K mg base N_Vault_open_loans "Vault.open_loans" (defScope s_Vault_open_loans) f cdv A outer s H E) (fun cls d _ H => E cls d H) := takes_of rfl rfl rfl rfl
  have po : PassesOwn (model P w) (cxOf (L2.CX P w) P w K mg base N_Vault_open_loans "Vault.open_loans" (defScope s_Vault_open_loans) f cdv A outer s H E).A (cxOf (L2.CX P w) P w K mg base N_Vault_open_loans "Vault.open_loans" (defScope s_Vault_open_loans) f cdv A outer s H E).env (cxOf (L2.CX P w) P w K mg base N_Vault_open_loans "Vault.open_loans" (defScope s_Vault_open_loans) f cdv A outer s H E).xe := passes_of rfl
  exact (dss_one (ds_ret (de_lc (own := [("ticket", 2), ("loan", 1)]) rfl nd (di_enum (de_fld cf_Vault (List.Mem.tail _ (List.Mem.tail _ (List.Mem.head _))) (de_var 0)) b_enumerate) (blkOk_by (own := [("ticket", 2), ("loan", 1)]) (N := N_Vault_open_loans) (sc := defScope s_Vault_open_loans) (by decide +kernel)) (by decide) (fun _ _ _ _ _ => (dg_tp rfl (dgs_cons 2 nd (dgs_cons 1 nd dgs_nil)))) (fun _ _ _ _ _ => (dts_one (dt_isNN (de_var 1)))) (fun _ _ _ _ _ => (de_var 2)))))
theorem d_Vault_open_loans {P : Program} {w : World} {K : PySem.W.Frag} {mg : Str → Option Value} {base : Heap} {f : Addr} {fd : FuncData} (F : FunD K "open_loans" "Vault.open_loans" (defArgs s_Vault_open_loans) (defBody s_Vault_open_loans) (defScope s_Vault_open_loans) [] [] f fd) {C : Addr} (hC : mg "Vault" = some (.ref C)) (hcl : Cls K C) (hm : Meth K C "open_loans" f) (b_enumerate : mg "enumerate" = none) (cf_Vault : ClsK K mg "Vault" ["modulus", "cells", "loans"]) : Mth P w K mg base 1 "Vault" "open_loans" 1 m_Vault_open_loans :=
  ⟨fun ds M o e => mir_len e, C, f, fd, P_Vault_open_loans, hC, hcl, hm, (FunD.bindsN F fun _ _ _ _ _ _ us hl => match us, hl with | [_], _ => rfl), (w_Vault_open_loans F b_enumerate cf_Vault)⟩

abbrev N_Loan___init__ : List Str := ["self", "program", "places", "given", "begun"]
abbrev P_Loan___init__ : List Str := ["self", "program", "places", "given", "begun"]
theorem sc_Loan___init__ : FnScope N_Loan___init__ P_Loan___init__ (defScope s_Loan___init__) := ⟨rfl, rfl, rfl, by decide +kernel, rfl, by decide +kernel, by decide +kernel⟩
noncomputable def g_Loan___init__ : SF := (sSeq (sFld "Loan" "program" (eVar 0) (eVar 1))
 (sSeq (sFld "Loan" "places" (eVar 0) (eVar 2))
 (sSeq (sFld "Loan" "given" (eVar 0) (eVar 3))
 (sSeq (sFld "Loan" "begun" (eVar 0) (eVar 4))
 (sFld "Loan" "done" (eVar 0) (eC (.int 0)))))))
noncomputable def m_Loan___init__ : List D → Hd → Option (Rs D) := mir N_Loan___init__.length P_Loan___init__.length g_Loan___init__
theorem w_Loan___init__ {P : Program} {w : World} {K : PySem.W.Frag} {mg : Str → Option Value} {base : Heap} {f : Addr} {fd : FuncData} (F : FunD K "__init__" "Loan.__init__" (defArgs s_Loan___init__) (defBody s_Loan___init__) (defScope s_Loan___init__) [] [] f fd) (cf_Loan : ClsK K mg "Loan" ["program", "places", "given", "begun", "done"]) : FnOk P w K mg base (L2.CX P w) 1 f fd P_Loan___init__ (spD K mg 5 m_Loan___init__) := by
  refine fn_mk (k := 0) (g := g_Loan___init__) F sc_Loan___init__ fun cdv A outer s H E hr => ?_
  have nd := sc_Loan___init__.nd
  have tk : Takes (cxOf (L2.CX P w) P w K mg base N_Loan___init__ "Loan.__init__" (defScope s_Loan___init__) f cdv A outer s H E) (fun cls d _ H => E cls d H) := takes_of rfl rfl rfl rfl
  have po : PassesOwn (model P w) (cxOf (L2.CX P w) P w K mg base N_Loan___init__ "Loan.__init__" (defScope s_Loan___init__) f cdv A outer s H E).A (cxOf (L2.CX P w) P w K mg base N_Loan___init__ "Loan.__init__" (defScope s_Loan___init__) f cdv A outer s H E).env (cxOf (L2.CX P w) P w K mg base N_Loan___init__ "Loan.__init__" (defScope s_Loan___init__) f cdv A outer s H E).xe := passes_of rfl
  exact (dss_cons (ds_fld cf_Loan (List.Mem.head _) (de_var 0) (de_var 1))
 (dss_cons (ds_fld cf_Loan (List.Mem.tail _ (List.Mem.head _)) (de_var 0) (de_var 2))
 (dss_cons (ds_fld cf_Loan (List.Mem.tail _ (List.Mem.tail _ (List.Mem.head _))) (de_var 0) (de_var 3))
 (dss_cons (ds_fld cf_Loan (List.Mem.tail _ (List.Mem.tail _ (List.Mem.tail _ (List.Mem.head _)))) (de_var 0) (de_var 4))
 (dss_one (ds_fld cf_Loan (List.Mem.tail _ (List.Mem.tail _ (List.Mem.tail _ (List.Mem.tail _ (List.Mem.head _))))) (de_var 0) de_int))))))
theorem d_Loan___init__ {P : Program} {w : World} {K : PySem.W.Frag} {mg : Str → Option Value} {base : Heap} {f : Addr} {fd : FuncData} (F : FunD K "__init__" "Loan.__init__" (defArgs s_Loan___init__) (defBody s_Loan___init__) (defScope s_Loan___init__) [] [] f fd) {C : Addr} (hC : mg "Loan" = some (.ref C)) (hm : Mk K C f) (cf_Loan : ClsK K mg "Loan" ["program", "places", "given", "begun", "done"]) : MkI P w K mg base 1 "Loan" 5 m_Loan___init__ :=
  ⟨fun ds M o e => mir_len e, C, f, fd, P_Loan___init__, hC, hm, (FunD.bindsN F fun _ _ _ _ _ _ us hl => match us, hl with | [_, _, _, _, _], _ => rfl), (w_Loan___init__ F cf_Loan)⟩

abbrev N_Vault_lend : List Str := ["self", "program", "places", "given", "seen", "place", "loan"]
abbrev P_Vault_lend : List Str := ["self", "program", "places", "given"]
theorem sc_Vault_lend : FnScope N_Vault_lend P_Vault_lend (defScope s_Vault_lend) := ⟨rfl, rfl, rfl, by decide +kernel, rfl, by decide +kernel, by decide +kernel⟩
noncomputable def g_Vault_lend : SF := (sSeq (sIf (tVal (eOp neG (eUn (fldG "Program" "modulus") (eVar 1)) (eUn (fldG "Vault" "modulus") (eVar 0)))) (sRaise "BadStep") sNil)
 (sSeq (sIf (tOr (tNot (tTru (eUn (isiG .lst) (eVar 2)))) (tVal (eOp neG (eUn lenD (eVar 2)) (eUn (fldG "Program" "cells") (eVar 1))))) (sRaise "BadMemory") sNil)
 (sSeq (sAsg 4 (eLst aNil))
 (sSeq (sFor (seqI (eVar 2)) (.nm 5) (sSeq (sIf (tOr (tNot (tTru (eCall m_is_number (aCons (eVar 5) (aCons (eUn lenD (eUn (fldG "Vault" "cells") (eVar 0))) aNil))))) (tVal (eOp (inG false) (eVar 5) (eVar 4)))) (sRaise "BadMemory") sNil)
 (sDrop (eLm appendG (eVar 4) (aCons (eVar 5) aNil)))))
 (sSeq (sDrop (eCall m_check_numbers (aCons (eVar 3) (aCons (eUn (fldG "Program" "inputs") (eVar 1)) (aCons (eUn (fldG "Vault" "modulus") (eVar 0)) aNil)))))
 (sSeq (sAsg 6 (eMake "Loan" m_Loan___init__ (aCons (eVar 1) (aCons (eVar 4) (aCons (eUn listG (eVar 3)) (aCons (eOp ixG (eUn (fldG "Vault" "cells") (eVar 0)) (eOp ixG (eVar 4) (eC (.int 0)))) aNil))))))
 (sSeq (sDrop (eLm appendG (eUn (fldG "Vault" "loans") (eVar 0)) (aCons (eVar 6) aNil)))
 (sRet (eOp subG (eUn lenD (eUn (fldG "Vault" "loans") (eVar 0))) (eC (.int 1)))))))))))
noncomputable def m_Vault_lend : List D → Hd → Option (Rs D) := mir N_Vault_lend.length P_Vault_lend.length g_Vault_lend
theorem w_Vault_lend {P : Program} {w : World} {K : PySem.W.Frag} {mg : Str → Option Value} {base : Heap} {f : Addr} {fd : FuncData} (F : FunD K "lend" "Vault.lend" (defArgs s_Vault_lend) (defBody s_Vault_lend) (defScope s_Vault_lend) [] [] f fd) (b_isinstance : mg "isinstance" = none) (b_list : mg "list" = none) (b_len : mg "len" = none) (F_is_number : Dfn P w K mg base 2 "is_number" 2 m_is_number) (F_check_numbers : Dfn P w K mg base 3 "check_numbers" 3 m_check_numbers) (F_Loan___init__ : MkI P w K mg base 1 "Loan" 5 m_Loan___init__) (cf_Program : ClsK K mg "Program" ["modulus", "cells", "inputs", "steps"]) (cf_Vault : ClsK K mg "Vault" ["modulus", "cells", "loans"]) (x_BadStep : XCl K mg "BadStep") (x_BadMemory : XCl K mg "BadMemory") : FnOk P w K mg base (L2.CX P w) 4 f fd P_Vault_lend (spD K mg 4 m_Vault_lend) := by
  refine fn_mk (k := 3) (g := g_Vault_lend) F sc_Vault_lend fun cdv A outer s H E hr => ?_
  have nd := sc_Vault_lend.nd
  have tk : Takes (cxOf (L2.CX P w) P w K mg base N_Vault_lend "Vault.lend" (defScope s_Vault_lend) f cdv A outer s H E) (fun cls d _ H => E cls d H) := takes_of rfl rfl rfl rfl
  have po : PassesOwn (model P w) (cxOf (L2.CX P w) P w K mg base N_Vault_lend "Vault.lend" (defScope s_Vault_lend) f cdv A outer s H E).A (cxOf (L2.CX P w) P w K mg base N_Vault_lend "Vault.lend" (defScope s_Vault_lend) f cdv A outer s H E).env (cxOf (L2.CX P w) P w K mg base N_Vault_lend "Vault.lend" (defScope s_Vault_lend) f cdv A outer s H E).xe := passes_of rfl
  exact (dss_cons (ds_if (dt_cmp (op_neP hr.units) od_ne (de_fld cf_Program (List.Mem.head _) (de_var 1)) (de_fld cf_Vault (List.Mem.head _) (de_var 0))) (dss_one (ds_raise rfl tk x_BadStep)) dss_nil)
 (dss_cons (ds_if (dt_w (dw_or (dt_not (dt_tru (de_isi .lst (de_var 2) b_isinstance b_list PyProof.Rows.boot_list))) (dw_or1 (dt_cmp (op_neP hr.units) od_ne (de_len (de_var 2) b_len) (de_fld cf_Program (List.Mem.tail _ (List.Mem.head _)) (de_var 1)))))) (dss_one (ds_raise rfl tk x_BadMemory)) dss_nil)
 (dss_cons (ds_set 4 nd (de_lst da_nil))
 (dss_cons (ds_for po rfl (di_seq (de_var 2)) (dg_nm 5 nd) (dss_cons (ds_if (dt_w (dw_or (dt_not (dt_tru (de_call (F_is_number.mono (by decide)) tk hr (da_cons (de_var 5) (da_cons (de_len (de_fld cf_Vault (List.Mem.tail _ (List.Mem.head _)) (de_var 0)) b_len) da_nil))))) (dw_or1 (dt_cmp op_in_seq od_in (de_var 5) (de_var 4) (hm := by with_unfolding_all rfl))))) (dss_one (ds_raise rfl tk x_BadMemory)) dss_nil)
 (dss_one (ds_drop (de_append (de_var 4) (da_cons (de_var 5) da_nil))))))
 (dss_cons (ds_drop (de_call (F_check_numbers.mono (by decide)) tk hr (da_cons (de_var 3) (da_cons (de_fld cf_Program (List.Mem.tail _ (List.Mem.tail _ (List.Mem.head _))) (de_var 1)) (da_cons (de_fld cf_Vault (List.Mem.head _) (de_var 0)) da_nil)))))
 (dss_cons (ds_set 6 nd (de_make (F_Loan___init__.mono (by decide)) tk hr (da_cons (de_var 1) (da_cons (de_var 4) (da_cons (de_list (de_var 3) b_list) (da_cons (de_ix (de_fld cf_Vault (List.Mem.tail _ (List.Mem.head _)) (de_var 0)) (de_ix (de_var 4) de_int)) da_nil))))))
 (dss_cons (ds_drop (de_append (de_fld cf_Vault (List.Mem.tail _ (List.Mem.tail _ (List.Mem.head _))) (de_var 0)) (da_cons (de_var 6) da_nil)))
 (dss_one (ds_ret (de_op op_sub od_sub (de_len (de_fld cf_Vault (List.Mem.tail _ (List.Mem.tail _ (List.Mem.head _))) (de_var 0)) b_len) de_int))))))))))
theorem d_Vault_lend {P : Program} {w : World} {K : PySem.W.Frag} {mg : Str → Option Value} {base : Heap} {f : Addr} {fd : FuncData} (F : FunD K "lend" "Vault.lend" (defArgs s_Vault_lend) (defBody s_Vault_lend) (defScope s_Vault_lend) [] [] f fd) {C : Addr} (hC : mg "Vault" = some (.ref C)) (hcl : Cls K C) (hm : Meth K C "lend" f) (b_isinstance : mg "isinstance" = none) (b_list : mg "list" = none) (b_len : mg "len" = none) (F_is_number : Dfn P w K mg base 2 "is_number" 2 m_is_number) (F_check_numbers : Dfn P w K mg base 3 "check_numbers" 3 m_check_numbers) (F_Loan___init__ : MkI P w K mg base 1 "Loan" 5 m_Loan___init__) (cf_Program : ClsK K mg "Program" ["modulus", "cells", "inputs", "steps"]) (cf_Vault : ClsK K mg "Vault" ["modulus", "cells", "loans"]) (x_BadStep : XCl K mg "BadStep") (x_BadMemory : XCl K mg "BadMemory") : Mth P w K mg base 4 "Vault" "lend" 4 m_Vault_lend :=
  ⟨fun ds M o e => mir_len e, C, f, fd, P_Vault_lend, hC, hcl, hm, (FunD.bindsN F fun _ _ _ _ _ _ us hl => match us, hl with | [_, _, _, _], _ => rfl), (w_Vault_lend F b_isinstance b_list b_len F_is_number F_check_numbers F_Loan___init__ cf_Program cf_Vault x_BadStep x_BadMemory)⟩

abbrev N__law_is_prime : List Str := ["_law_number_here", "_law_k"]
abbrev P__law_is_prime : List Str := ["_law_number_here"]
theorem sc__law_is_prime : FnScope N__law_is_prime P__law_is_prime (defScope s__law_is_prime) := ⟨rfl, rfl, rfl, by decide +kernel, rfl, by decide +kernel, by decide +kernel⟩
noncomputable def g__law_is_prime : SF := (sSeq (sIf (tVal (eOp gtG (eVar 0) (eC (.int 2000)))) (sRet (eOp eqG (eVar 0) (eC (.int 999999937)))) sNil)
 (sRet (eOp eqG (eUn lenD (eLc (rng2 (eC (.int 2)) (eVar 0)) (.nm 1) (tVal (eOp eqG (eOp modG (eVar 0) (eVar 1)) (eC (.int 0)))) (eVar 1) [1])) (eC (.int 0)))))
noncomputable def m__law_is_prime : List D → Hd → Option (Rs D) := mir N__law_is_prime.length P__law_is_prime.length g__law_is_prime
theorem w__law_is_prime {P : Program} {w : World} {K : PySem.W.Frag} {mg : Str → Option Value} {base : Heap} {f : Addr} {fd : FuncData} (F : FunD K "_law_is_prime" "_law_is_prime" (defArgs s__law_is_prime) (defBody s__law_is_prime) (defScope s__law_is_prime) [] [] f fd) (b_range : mg "range" = none) (b_len : mg "len" = none) : FnOk P w K mg base (L2.CX P w) 1 f fd P__law_is_prime (spD K mg 1 m__law_is_prime) := by
  refine fn_mk (k := 0) (g := g__law_is_prime) F sc__law_is_prime fun cdv A outer s H E hr => ?_
  have nd := sc__law_is_prime.nd
  have tk : Takes (cxOf (L2.CX P w) P w K mg base N__law_is_prime "_law_is_prime" (defScope s__law_is_prime) f cdv A outer s H E) (fun cls d _ H => E cls d H) := takes_of rfl rfl rfl rfl
  have po : PassesOwn (model P w) (cxOf (L2.CX P w) P w K mg base N__law_is_prime "_law_is_prime" (defScope s__law_is_prime) f cdv A outer s H E).A (cxOf (L2.CX P w) P w K mg base N__law_is_prime "_law_is_prime" (defScope s__law_is_prime) f cdv A outer s H E).env (cxOf (L2.CX P w) P w K mg base N__law_is_prime "_law_is_prime" (defScope s__law_is_prime) f cdv A outer s H E).xe := passes_of rfl
  exact (dss_cons (ds_if (dt_cmp op_gt od_gt (de_var 0) de_int) (dss_one (ds_ret (de_cmp (op_eqP hr.units) od_eq (de_var 0) de_int))) dss_nil)
 (dss_one (ds_ret (de_cmp (op_eqP hr.units) od_eq (de_len (de_lc (own := [("_law_k", 1)]) rfl nd (di_rng2 de_int (de_var 0) b_range) (blkOk_by (own := [("_law_k", 1)]) (N := N__law_is_prime) (sc := defScope s__law_is_prime) (by decide +kernel)) (by decide) (fun _ _ _ _ _ => (dg_nm 1 nd)) (fun _ _ _ _ _ => (dts_one (dt_cmp (op_eqP hr.units) od_eq (de_op op_mod od_mod (de_var 0) (de_var 1)) de_int))) (fun _ _ _ _ _ => (de_var 1))) b_len) de_int))))
theorem d__law_is_prime {P : Program} {w : World} {K : PySem.W.Frag} {mg : Str → Option Value} {base : Heap} {f : Addr} {fd : FuncData} (F : FunD K "_law_is_prime" "_law_is_prime" (defArgs s__law_is_prime) (defBody s__law_is_prime) (defScope s__law_is_prime) [] [] f fd) (hmg : mg "_law_is_prime" = some (.ref f)) (b_range : mg "range" = none) (b_len : mg "len" = none) : Dfn P w K mg base 1 "_law_is_prime" 1 m__law_is_prime :=
  dfn_of F hmg (FunD.bindsN F fun _ _ _ _ _ _ us hl => match us, hl with | [_], _ => rfl) (w__law_is_prime F b_range b_len)

abbrev N__law_look : List Str := ["_law_draws", "_law_modulus_here", "_law_cells", "_law_target", "_law_size_here", "_law_rows", "_law_a", "_law_b", "_law_i", "_law_j"]
abbrev P__law_look : List Str := ["_law_draws", "_law_modulus_here", "_law_cells", "_law_target"]
theorem sc__law_look : FnScope N__law_look P__law_look (defScope s__law_look) := ⟨rfl, rfl, rfl, by decide +kernel, rfl, by decide +kernel, by decide +kernel⟩
noncomputable def g__law_look : SF := (sSeq (sAsg 4 (eOp addG (eC (.int 1)) (eOp modG (eCall m__law_draw (aCons (eVar 0) aNil)) (eCB min2 (aCons (eC (.int 3)) (aCons (eVar 1) aNil))))))
 (sSeq (sAsg 5 (eLc (rng1 (eVar 4)) (.nm 8) tYes (eUn tupleG (eLc (rng1 (eVar 4)) (.nm 9) tYes (eCall m__law_number (aCons (eVar 0) (aCons (eVar 1) aNil))) [9])) [8]))
 (sSeq (sAsg 6 (eOp modG (eOp addG (eOp addG (eVar 3) (eC (.int 1))) (eOp modG (eCall m__law_draw (aCons (eVar 0) aNil)) (eOp subG (eVar 2) (eC (.int 1))))) (eVar 2)))
 (sSeq (sAsg 7 (eOp modG (eOp addG (eVar 3) (eC (.int 1))) (eVar 2)))
 (sSeq (sIf (tVal (eOp eqG (eVar 6) (eVar 7))) (sAsg 7 (eOp modG (eOp addG (eVar 3) (eC (.int 2))) (eVar 2))) sNil)
 (sRet (eTup (aCons (eC (.str "table")) (aCons (eVar 3) (aCons (eOp ixG (eLst (aCons (eC (.int 1)) (aCons (eOp subG (eVar 1) (eC (.int 1))) aNil))) (eOp modG (eCall m__law_draw (aCons (eVar 0) aNil)) (eC (.int 2)))) (aCons (eUn tupleG (eVar 5)) (aCons (eVar 6) (aCons (eVar 7) aNil)))))))))))))
noncomputable def m__law_look : List D → Hd → Option (Rs D) := mir N__law_look.length P__law_look.length g__law_look
theorem w__law_look {P : Program} {w : World} {K : PySem.W.Frag} {mg : Str → Option Value} {base : Heap} {f : Addr} {fd : FuncData} (F : FunD K "_law_look" "_law_look" (defArgs s__law_look) (defBody s__law_look) (defScope s__law_look) [] [] f fd) (b_min : mg "min" = none) (b_range : mg "range" = none) (b_tuple : mg "tuple" = none) (F__law_draw : Dfn P w K mg base 2 "_law_draw" 1 m__law_draw) (F__law_number : Dfn P w K mg base 3 "_law_number" 2 m__law_number) : FnOk P w K mg base (L2.CX P w) 4 f fd P__law_look (spD K mg 4 m__law_look) := by
  refine fn_mk (k := 3) (g := g__law_look) F sc__law_look fun cdv A outer s H E hr => ?_
  have nd := sc__law_look.nd
  have tk : Takes (cxOf (L2.CX P w) P w K mg base N__law_look "_law_look" (defScope s__law_look) f cdv A outer s H E) (fun cls d _ H => E cls d H) := takes_of rfl rfl rfl rfl
  have po : PassesOwn (model P w) (cxOf (L2.CX P w) P w K mg base N__law_look "_law_look" (defScope s__law_look) f cdv A outer s H E).A (cxOf (L2.CX P w) P w K mg base N__law_look "_law_look" (defScope s__law_look) f cdv A outer s H E).env (cxOf (L2.CX P w) P w K mg base N__law_look "_law_look" (defScope s__law_look) f cdv A outer s H E).xe := passes_of rfl
  exact (dss_cons (ds_set 4 nd (de_op op_addD od_add de_int (de_op op_mod od_mod (de_call (F__law_draw.mono (by decide)) tk hr (da_cons (de_var 0) da_nil)) (de_min2 rfl (da_cons de_int (da_cons (de_var 1) da_nil)) b_min))))
 (dss_cons (ds_setLc (own := [("_law_i", 8)]) (i := 5) rfl nd rfl rfl (sw_true rfl rfl rfl (by decide +kernel)) (di_rng1 (de_var 4) b_range) (blkOk_by (own := [("_law_i", 8)]) (N := N__law_look) (sc := defScope s__law_look) (by decide +kernel)) (by decide) (fun _ _ _ _ _ => (dg_nm 8 nd)) (fun _ _ _ _ _ => dts_nil) (fun _ _ _ _ _ => (de_tuple (de_lc (own := [("_law_j", 9)]) rfl nd (di_rng1 (de_var 4) b_range) (blkOk_in (own := [("_law_j", 9)]) (N := N__law_look) (by decide +kernel)) (by decide) (fun _ _ _ _ _ => (dg_nm 9 nd)) (fun _ _ _ _ _ => dts_nil) (fun _ _ _ _ _ => (de_call (F__law_number.mono (by decide)) takes0 hr (da_cons (de_var 0) (da_cons (de_var 1) da_nil))))) b_tuple)))
 (dss_cons (ds_set 6 nd (de_op op_mod od_mod (de_op op_addD od_add (de_op op_addD od_add (de_var 3) de_int) (de_op op_mod od_mod (de_call (F__law_draw.mono (by decide)) tk hr (da_cons (de_var 0) da_nil)) (de_op op_sub od_sub (de_var 2) de_int))) (de_var 2)))
 (dss_cons (ds_set 7 nd (de_op op_mod od_mod (de_op op_addD od_add (de_var 3) de_int) (de_var 2)))
 (dss_cons (ds_if (dt_cmp (op_eqP hr.units) od_eq (de_var 6) (de_var 7)) (dss_one (ds_set 7 nd (de_op op_mod od_mod (de_op op_addD od_add (de_var 3) de_int) (de_var 2)))) dss_nil)
 (dss_one (ds_ret (de_tup (da_cons de_str (da_cons (de_var 3) (da_cons (de_ix (de_lst (da_cons de_int (da_cons (de_op op_sub od_sub (de_var 1) de_int) da_nil))) (de_op op_mod od_mod (de_call (F__law_draw.mono (by decide)) tk hr (da_cons (de_var 0) da_nil)) de_int)) (da_cons (de_tuple (de_var 5) b_tuple) (da_cons (de_var 6) (da_cons (de_var 7) da_nil))))))))))))))
theorem d__law_look {P : Program} {w : World} {K : PySem.W.Frag} {mg : Str → Option Value} {base : Heap} {f : Addr} {fd : FuncData} (F : FunD K "_law_look" "_law_look" (defArgs s__law_look) (defBody s__law_look) (defScope s__law_look) [] [] f fd) (hmg : mg "_law_look" = some (.ref f)) (b_min : mg "min" = none) (b_range : mg "range" = none) (b_tuple : mg "tuple" = none) (F__law_draw : Dfn P w K mg base 2 "_law_draw" 1 m__law_draw) (F__law_number : Dfn P w K mg base 3 "_law_number" 2 m__law_number) : Dfn P w K mg base 4 "_law_look" 4 m__law_look :=
  dfn_of F hmg (FunD.bindsN F fun _ _ _ _ _ _ us hl => match us, hl with | [_, _, _, _], _ => rfl) (w__law_look F b_min b_range b_tuple F__law_draw F__law_number)

abbrev N__law_factors : List Str := ["_law_draws", "_law_cells", "_law_inputs", "_law_target", "_law_factors_here", "_law_k"]
abbrev P__law_factors : List Str := ["_law_draws", "_law_cells", "_law_inputs", "_law_target"]
theorem sc__law_factors : FnScope N__law_factors P__law_factors (defScope s__law_factors) := ⟨rfl, rfl, rfl, by decide +kernel, rfl, by decide +kernel, by decide +kernel⟩
noncomputable def g__law_factors : SF := (sSeq (sAsg 4 (eLst aNil))
 (sSeq (sFor (rng1 (eOp modG (eCall m__law_draw (aCons (eVar 0) aNil)) (eC (.int 4)))) (.nm 5) (sIf (tAnd (tVal (eOp gtG (eVar 2) (eC (.int 0)))) (tVal (eOp eqG (eOp modG (eCall m__law_draw (aCons (eVar 0) aNil)) (eC (.int 2))) (eC (.int 0))))) (sDrop (eLm appendG (eVar 4) (aCons (eTup (aCons (eC (.str "input")) (aCons (eOp modG (eCall m__law_draw (aCons (eVar 0) aNil)) (eVar 2)) aNil))) aNil))) (sIf (tVal (eOp gtG (eVar 1) (eC (.int 1)))) (sDrop (eLm appendG (eVar 4) (aCons (eTup (aCons (eC (.str "cell")) (aCons (eOp modG (eOp addG (eOp addG (eVar 3) (eC (.int 1))) (eOp modG (eCall m__law_draw (aCons (eVar 0) aNil)) (eOp subG (eVar 1) (eC (.int 1))))) (eVar 1)) aNil))) aNil))) sNil)))
 (sRet (eUn tupleG (eVar 4)))))
noncomputable def m__law_factors : List D → Hd → Option (Rs D) := mir N__law_factors.length P__law_factors.length g__law_factors
theorem w__law_factors {P : Program} {w : World} {K : PySem.W.Frag} {mg : Str → Option Value} {base : Heap} {f : Addr} {fd : FuncData} (F : FunD K "_law_factors" "_law_factors" (defArgs s__law_factors) (defBody s__law_factors) (defScope s__law_factors) [] [] f fd) (b_range : mg "range" = none) (b_tuple : mg "tuple" = none) (F__law_draw : Dfn P w K mg base 2 "_law_draw" 1 m__law_draw) : FnOk P w K mg base (L2.CX P w) 3 f fd P__law_factors (spD K mg 4 m__law_factors) := by
  refine fn_mk (k := 2) (g := g__law_factors) F sc__law_factors fun cdv A outer s H E hr => ?_
  have nd := sc__law_factors.nd
  have tk : Takes (cxOf (L2.CX P w) P w K mg base N__law_factors "_law_factors" (defScope s__law_factors) f cdv A outer s H E) (fun cls d _ H => E cls d H) := takes_of rfl rfl rfl rfl
  have po : PassesOwn (model P w) (cxOf (L2.CX P w) P w K mg base N__law_factors "_law_factors" (defScope s__law_factors) f cdv A outer s H E).A (cxOf (L2.CX P w) P w K mg base N__law_factors "_law_factors" (defScope s__law_factors) f cdv A outer s H E).env (cxOf (L2.CX P w) P w K mg base N__law_factors "_law_factors" (defScope s__law_factors) f cdv A outer s H E).xe := passes_of rfl
  exact (dss_cons (ds_set 4 nd (de_lst da_nil))
 (dss_cons (ds_for po rfl (di_rng1 (de_op op_mod od_mod (de_call (F__law_draw.mono (by decide)) tk hr (da_cons (de_var 0) da_nil)) de_int) b_range) (dg_nm 5 nd) (dss_one (ds_if (dt_w (dw_and (dt_cmp op_gt od_gt (de_var 2) de_int) (dw_and1 (dt_cmp (op_eqP hr.units) od_eq (de_op op_mod od_mod (de_call (F__law_draw.mono (by decide)) tk hr (da_cons (de_var 0) da_nil)) de_int) de_int)))) (dss_one (ds_drop (de_append (de_var 4) (da_cons (de_tup (da_cons de_str (da_cons (de_op op_mod od_mod (de_call (F__law_draw.mono (by decide)) tk hr (da_cons (de_var 0) da_nil)) (de_var 2)) da_nil))) da_nil)))) (dss_one (ds_if (dt_cmp op_gt od_gt (de_var 1) de_int) (dss_one (ds_drop (de_append (de_var 4) (da_cons (de_tup (da_cons de_str (da_cons (de_op op_mod od_mod (de_op op_addD od_add (de_op op_addD od_add (de_var 3) de_int) (de_op op_mod od_mod (de_call (F__law_draw.mono (by decide)) tk hr (da_cons (de_var 0) da_nil)) (de_op op_sub od_sub (de_var 1) de_int))) (de_var 1)) da_nil))) da_nil)))) dss_nil)))))
 (dss_one (ds_ret (de_tuple (de_var 4) b_tuple)))))
theorem d__law_factors {P : Program} {w : World} {K : PySem.W.Frag} {mg : Str → Option Value} {base : Heap} {f : Addr} {fd : FuncData} (F : FunD K "_law_factors" "_law_factors" (defArgs s__law_factors) (defBody s__law_factors) (defScope s__law_factors) [] [] f fd) (hmg : mg "_law_factors" = some (.ref f)) (b_range : mg "range" = none) (b_tuple : mg "tuple" = none) (F__law_draw : Dfn P w K mg base 2 "_law_draw" 1 m__law_draw) : Dfn P w K mg base 3 "_law_factors" 4 m__law_factors :=
  dfn_of F hmg (FunD.bindsN F fun _ _ _ _ _ _ us hl => match us, hl with | [_, _, _, _], _ => rfl) (w__law_factors F b_range b_tuple F__law_draw)

abbrev N__law_gcd : List Str := ["_law_a", "_law_b", "_law_k", "_law_c"]
abbrev P__law_gcd : List Str := ["_law_a", "_law_b"]
theorem sc__law_gcd : FnScope N__law_gcd P__law_gcd (defScope s__law_gcd) := ⟨rfl, rfl, rfl, by decide +kernel, rfl, by decide +kernel, by decide +kernel⟩
noncomputable def g__law_gcd : SF := (sSeq (sFor (rng1 (eC (.int 120))) (.nm 2) (sSeq (sIf (tVal (eOp eqG (eVar 1) (eC (.int 0)))) (sRet (eVar 0)) sNil)
 (sSeq (sAsg 3 (eOp modG (eVar 0) (eVar 1)))
 (sSeq (sAsg 0 (eVar 1))
 (sAsg 1 (eVar 3))))))
 (sRet (eVar 0)))
noncomputable def m__law_gcd : List D → Hd → Option (Rs D) := mir N__law_gcd.length P__law_gcd.length g__law_gcd
theorem w__law_gcd {P : Program} {w : World} {K : PySem.W.Frag} {mg : Str → Option Value} {base : Heap} {f : Addr} {fd : FuncData} (F : FunD K "_law_gcd" "_law_gcd" (defArgs s__law_gcd) (defBody s__law_gcd) (defScope s__law_gcd) [] [] f fd) (b_range : mg "range" = none) : FnOk P w K mg base (L2.CX P w) 1 f fd P__law_gcd (spD K mg 2 m__law_gcd) := by
  refine fn_mk (k := 0) (g := g__law_gcd) F sc__law_gcd fun cdv A outer s H E hr => ?_
  have nd := sc__law_gcd.nd
  have tk : Takes (cxOf (L2.CX P w) P w K mg base N__law_gcd "_law_gcd" (defScope s__law_gcd) f cdv A outer s H E) (fun cls d _ H => E cls d H) := takes_of rfl rfl rfl rfl
  have po : PassesOwn (model P w) (cxOf (L2.CX P w) P w K mg base N__law_gcd "_law_gcd" (defScope s__law_gcd) f cdv A outer s H E).A (cxOf (L2.CX P w) P w K mg base N__law_gcd "_law_gcd" (defScope s__law_gcd) f cdv A outer s H E).env (cxOf (L2.CX P w) P w K mg base N__law_gcd "_law_gcd" (defScope s__law_gcd) f cdv A outer s H E).xe := passes_of rfl
  exact (dss_cons (ds_for po rfl (di_rng1 de_int b_range) (dg_nm 2 nd) (dss_cons (ds_if (dt_cmp (op_eqP hr.units) od_eq (de_var 1) de_int) (dss_one (ds_ret (de_var 0))) dss_nil)
 (dss_cons (ds_set 3 nd (de_op op_mod od_mod (de_var 0) (de_var 1)))
 (dss_cons (ds_set 0 nd (de_var 1))
 (dss_one (ds_set 1 nd (de_var 3)))))))
 (dss_one (ds_ret (de_var 0))))
theorem d__law_gcd {P : Program} {w : World} {K : PySem.W.Frag} {mg : Str → Option Value} {base : Heap} {f : Addr} {fd : FuncData} (F : FunD K "_law_gcd" "_law_gcd" (defArgs s__law_gcd) (defBody s__law_gcd) (defScope s__law_gcd) [] [] f fd) (hmg : mg "_law_gcd" = some (.ref f)) (b_range : mg "range" = none) : Dfn P w K mg base 1 "_law_gcd" 2 m__law_gcd :=
  dfn_of F hmg (FunD.bindsN F fun _ _ _ _ _ _ us hl => match us, hl with | [_, _], _ => rfl) (w__law_gcd F b_range)

abbrev N__law_step : List Str := ["_law_draws", "_law_modulus_here", "_law_cells", "_law_inputs", "_law_target", "_law_pick", "_law_unit"]
abbrev P__law_step : List Str := ["_law_draws", "_law_modulus_here", "_law_cells", "_law_inputs"]
theorem sc__law_step : FnScope N__law_step P__law_step (defScope s__law_step) := ⟨rfl, rfl, rfl, by decide +kernel, rfl, by decide +kernel, by decide +kernel⟩
noncomputable def g__law_step : SF := (sSeq (sAsg 4 (eOp modG (eCall m__law_draw (aCons (eVar 0) aNil)) (eVar 2)))
 (sSeq (sAsg 5 (eOp modG (eCall m__law_draw (aCons (eVar 0) aNil)) (eC (.int 8))))
 (sSeq (sIf (tAnd (tVal (eOp eqG (eVar 5) (eC (.int 0)))) (tVal (eOp gtG (eVar 2) (eC (.int 1))))) (sRet (eTup (aCons (eC (.str "swap")) (aCons (eVar 4) (aCons (eOp modG (eOp addG (eOp addG (eVar 4) (eC (.int 1))) (eOp modG (eCall m__law_draw (aCons (eVar 0) aNil)) (eOp subG (eVar 2) (eC (.int 1))))) (eVar 2)) aNil))))) sNil)
 (sSeq (sIf (tVal (eOp eqG (eVar 5) (eC (.int 1)))) (sSeq (sAsg 6 (eCall m__law_number (aCons (eVar 0) (aCons (eVar 1) aNil))))
 (sIf (tVal (eOp eqG (eCall m__law_gcd (aCons (eVar 1) (aCons (eVar 6) aNil))) (eC (.int 1)))) (sRet (eTup (aCons (eC (.str "scale")) (aCons (eVar 4) (aCons (eVar 6) aNil))))) sNil)) sNil)
 (sSeq (sIf (tAnd (tVal (eOp ltG (eVar 5) (eC (.int 4)))) (tAnd (tVal (eOp gtG (eVar 2) (eC (.int 2)))) (tTru (eCall m__law_is_prime (aCons (eVar 1) aNil))))) (sRet (eCall m__law_look (aCons (eVar 0) (aCons (eVar 1) (aCons (eVar 2) (aCons (eVar 4) aNil)))))) sNil)
 (sRet (eTup (aCons (eC (.str "add")) (aCons (eVar 4) (aCons (eCall m__law_number (aCons (eVar 0) (aCons (eVar 1) aNil))) (aCons (eCall m__law_factors (aCons (eVar 0) (aCons (eVar 2) (aCons (eVar 3) (aCons (eVar 4) aNil))))) aNil)))))))))))
noncomputable def m__law_step : List D → Hd → Option (Rs D) := mir N__law_step.length P__law_step.length g__law_step
theorem w__law_step {P : Program} {w : World} {K : PySem.W.Frag} {mg : Str → Option Value} {base : Heap} {f : Addr} {fd : FuncData} (F : FunD K "_law_step" "_law_step" (defArgs s__law_step) (defBody s__law_step) (defScope s__law_step) [] [] f fd) (F__law_draw : Dfn P w K mg base 2 "_law_draw" 1 m__law_draw) (F__law_number : Dfn P w K mg base 3 "_law_number" 2 m__law_number) (F__law_gcd : Dfn P w K mg base 1 "_law_gcd" 2 m__law_gcd) (F__law_is_prime : Dfn P w K mg base 1 "_law_is_prime" 1 m__law_is_prime) (F__law_look : Dfn P w K mg base 4 "_law_look" 4 m__law_look) (F__law_factors : Dfn P w K mg base 3 "_law_factors" 4 m__law_factors) : FnOk P w K mg base (L2.CX P w) 5 f fd P__law_step (spD K mg 4 m__law_step) := by
  refine fn_mk (k := 4) (g := g__law_step) F sc__law_step fun cdv A outer s H E hr => ?_
  have nd := sc__law_step.nd
  have tk : Takes (cxOf (L2.CX P w) P w K mg base N__law_step "_law_step" (defScope s__law_step) f cdv A outer s H E) (fun cls d _ H => E cls d H) := takes_of rfl rfl rfl rfl
  have po : PassesOwn (model P w) (cxOf (L2.CX P w) P w K mg base N__law_step "_law_step" (defScope s__law_step) f cdv A outer s H E).A (cxOf (L2.CX P w) P w K mg base N__law_step "_law_step" (defScope s__law_step) f cdv A outer s H E).env (cxOf (L2.CX P w) P w K mg base N__law_step "_law_step" (defScope s__law_step) f cdv A outer s H E).xe := passes_of rfl
  exact (dss_cons (ds_set 4 nd (de_op op_mod od_mod (de_call (F__law_draw.mono (by decide)) tk hr (da_cons (de_var 0) da_nil)) (de_var 2)))
 (dss_cons (ds_set 5 nd (de_op op_mod od_mod (de_call (F__law_draw.mono (by decide)) tk hr (da_cons (de_var 0) da_nil)) de_int))
 (dss_cons (ds_if (dt_w (dw_and (dt_cmp (op_eqP hr.units) od_eq (de_var 5) de_int) (dw_and1 (dt_cmp op_gt od_gt (de_var 2) de_int)))) (dss_one (ds_ret (de_tup (da_cons de_str (da_cons (de_var 4) (da_cons (de_op op_mod od_mod (de_op op_addD od_add (de_op op_addD od_add (de_var 4) de_int) (de_op op_mod od_mod (de_call (F__law_draw.mono (by decide)) tk hr (da_cons (de_var 0) da_nil)) (de_op op_sub od_sub (de_var 2) de_int))) (de_var 2)) da_nil)))))) dss_nil)
 (dss_cons (ds_if (dt_cmp (op_eqP hr.units) od_eq (de_var 5) de_int) (dss_cons (ds_set 6 nd (de_call (F__law_number.mono (by decide)) tk hr (da_cons (de_var 0) (da_cons (de_var 1) da_nil))))
 (dss_one (ds_if (dt_cmp (op_eqP hr.units) od_eq (de_call (F__law_gcd.mono (by decide)) tk hr (da_cons (de_var 1) (da_cons (de_var 6) da_nil))) de_int) (dss_one (ds_ret (de_tup (da_cons de_str (da_cons (de_var 4) (da_cons (de_var 6) da_nil)))))) dss_nil))) dss_nil)
 (dss_cons (ds_if (dt_w (dw_and (dt_cmp op_lt od_lt (de_var 5) de_int) (dw_and (dt_cmp op_gt od_gt (de_var 2) de_int) (dw_and1 (dt_tru (de_call (F__law_is_prime.mono (by decide)) tk hr (da_cons (de_var 1) da_nil))))))) (dss_one (ds_ret (de_call (F__law_look.mono (by decide)) tk hr (da_cons (de_var 0) (da_cons (de_var 1) (da_cons (de_var 2) (da_cons (de_var 4) da_nil))))))) dss_nil)
 (dss_one (ds_ret (de_tup (da_cons de_str (da_cons (de_var 4) (da_cons (de_call (F__law_number.mono (by decide)) tk hr (da_cons (de_var 0) (da_cons (de_var 1) da_nil))) (da_cons (de_call (F__law_factors.mono (by decide)) tk hr (da_cons (de_var 0) (da_cons (de_var 2) (da_cons (de_var 3) (da_cons (de_var 4) da_nil))))) da_nil))))))))))))
theorem d__law_step {P : Program} {w : World} {K : PySem.W.Frag} {mg : Str → Option Value} {base : Heap} {f : Addr} {fd : FuncData} (F : FunD K "_law_step" "_law_step" (defArgs s__law_step) (defBody s__law_step) (defScope s__law_step) [] [] f fd) (hmg : mg "_law_step" = some (.ref f)) (F__law_draw : Dfn P w K mg base 2 "_law_draw" 1 m__law_draw) (F__law_number : Dfn P w K mg base 3 "_law_number" 2 m__law_number) (F__law_gcd : Dfn P w K mg base 1 "_law_gcd" 2 m__law_gcd) (F__law_is_prime : Dfn P w K mg base 1 "_law_is_prime" 1 m__law_is_prime) (F__law_look : Dfn P w K mg base 4 "_law_look" 4 m__law_look) (F__law_factors : Dfn P w K mg base 3 "_law_factors" 4 m__law_factors) : Dfn P w K mg base 5 "_law_step" 4 m__law_step :=
  dfn_of F hmg (FunD.bindsN F fun _ _ _ _ _ _ us hl => match us, hl with | [_, _, _, _], _ => rfl) (w__law_step F F__law_draw F__law_number F__law_gcd F__law_is_prime F__law_look F__law_factors)

abbrev N__law_places : List Str := ["_law_draws", "_law_size_here", "_law_cells", "_law_left", "_law_k"]
abbrev P__law_places : List Str := ["_law_draws", "_law_size_here", "_law_cells"]
theorem sc__law_places : FnScope N__law_places P__law_places (defScope s__law_places) := ⟨rfl, rfl, rfl, by decide +kernel, rfl, by decide +kernel, by decide +kernel⟩
noncomputable def g__law_places : SF := (sSeq (sAsg 3 (eLc (rng1 (eVar 1)) (.nm 4) tYes (eVar 4) [4]))
 (sRet (eLc (rng1 (eVar 2)) (.nm 4) tYes (eLm popAtG (eVar 3) (aCons (eOp modG (eCall m__law_draw (aCons (eVar 0) aNil)) (eUn lenD (eVar 3))) aNil)) [4])))
noncomputable def m__law_places : List D → Hd → Option (Rs D) := mir N__law_places.length P__law_places.length g__law_places
theorem w__law_places {P : Program} {w : World} {K : PySem.W.Frag} {mg : Str → Option Value} {base : Heap} {f : Addr} {fd : FuncData} (F : FunD K "_law_places" "_law_places" (defArgs s__law_places) (defBody s__law_places) (defScope s__law_places) [] [] f fd) (b_range : mg "range" = none) (b_len : mg "len" = none) (F__law_draw : Dfn P w K mg base 2 "_law_draw" 1 m__law_draw) : FnOk P w K mg base (L2.CX P w) 3 f fd P__law_places (spD K mg 3 m__law_places) := by
  refine fn_mk (k := 2) (g := g__law_places) F sc__law_places fun cdv A outer s H E hr => ?_
  have nd := sc__law_places.nd
  have tk : Takes (cxOf (L2.CX P w) P w K mg base N__law_places "_law_places" (defScope s__law_places) f cdv A outer s H E) (fun cls d _ H => E cls d H) := takes_of rfl rfl rfl rfl
  have po : PassesOwn (model P w) (cxOf (L2.CX P w) P w K mg base N__law_places "_law_places" (defScope s__law_places) f cdv A outer s H E).A (cxOf (L2.CX P w) P w K mg base N__law_places "_law_places" (defScope s__law_places) f cdv A outer s H E).env (cxOf (L2.CX P w) P w K mg base N__law_places "_law_places" (defScope s__law_places) f cdv A outer s H E).xe := passes_of rfl
  exact (dss_cons (ds_set 3 nd (de_lc (own := [("_law_k", 4)]) rfl nd (di_rng1 (de_var 1) b_range) (blkOk_by (own := [("_law_k", 4)]) (N := N__law_places) (sc := defScope s__law_places) (by decide +kernel)) (by decide) (fun _ _ _ _ _ => (dg_nm 4 nd)) (fun _ _ _ _ _ => dts_nil) (fun _ _ _ _ _ => (de_var 4))))
 (dss_one (ds_ret (de_lc (own := [("_law_k", 4)]) rfl nd (di_rng1 (de_var 2) b_range) (blkOk_by (own := [("_law_k", 4)]) (N := N__law_places) (sc := defScope s__law_places) (by decide +kernel)) (by decide) (fun _ _ _ _ _ => (dg_nm 4 nd)) (fun _ _ _ _ _ => dts_nil) (fun _ _ _ _ _ => (de_popAt (de_var 3) (da_cons (de_op op_mod od_mod (de_call (F__law_draw.mono (by decide)) takes0 hr (da_cons (de_var 0) da_nil)) (de_len (de_var 3) b_len)) da_nil)))))))
theorem d__law_places {P : Program} {w : World} {K : PySem.W.Frag} {mg : Str → Option Value} {base : Heap} {f : Addr} {fd : FuncData} (F : FunD K "_law_places" "_law_places" (defArgs s__law_places) (defBody s__law_places) (defScope s__law_places) [] [] f fd) (hmg : mg "_law_places" = some (.ref f)) (b_range : mg "range" = none) (b_len : mg "len" = none) (F__law_draw : Dfn P w K mg base 2 "_law_draw" 1 m__law_draw) : Dfn P w K mg base 3 "_law_places" 3 m__law_places :=
  dfn_of F hmg (FunD.bindsN F fun _ _ _ _ _ _ us hl => match us, hl with | [_, _, _], _ => rfl) (w__law_places F b_range b_len F__law_draw)

abbrev N__law_loan : List Str := ["_law_draws", "_law_modulus_here", "_law_size_here", "_law_cells", "_law_inputs", "_law_steps", "_law_given", "_law_k"]
abbrev P__law_loan : List Str := ["_law_draws", "_law_modulus_here", "_law_size_here"]
theorem sc__law_loan : FnScope N__law_loan P__law_loan (defScope s__law_loan) := ⟨rfl, rfl, rfl, by decide +kernel, rfl, by decide +kernel, by decide +kernel⟩
noncomputable def g__law_loan : SF := (sSeq (sAsg 3 (eOp addG (eC (.int 1)) (eOp modG (eCall m__law_draw (aCons (eVar 0) aNil)) (eCB min2 (aCons (eC (.int 5)) (aCons (eVar 2) aNil))))))
 (sSeq (sAsg 4 (eOp modG (eCall m__law_draw (aCons (eVar 0) aNil)) (eC (.int 3))))
 (sSeq (sAsg 5 (eLc (rng1 (eOp modG (eCall m__law_draw (aCons (eVar 0) aNil)) (eC (.int 8)))) (.nm 7) tYes (eCall m__law_step (aCons (eVar 0) (aCons (eVar 1) (aCons (eVar 3) (aCons (eVar 4) aNil))))) [7]))
 (sSeq (sAsg 6 (eLc (rng1 (eVar 4)) (.nm 7) tYes (eCall m__law_number (aCons (eVar 0) (aCons (eVar 1) aNil))) [7]))
 (sRet (eLst (aCons (eVar 3) (aCons (eVar 4) (aCons (eVar 5) (aCons (eCall m__law_places (aCons (eVar 0) (aCons (eVar 2) (aCons (eVar 3) aNil)))) (aCons (eVar 6) aNil)))))))))))
noncomputable def m__law_loan : List D → Hd → Option (Rs D) := mir N__law_loan.length P__law_loan.length g__law_loan
theorem w__law_loan {P : Program} {w : World} {K : PySem.W.Frag} {mg : Str → Option Value} {base : Heap} {f : Addr} {fd : FuncData} (F : FunD K "_law_loan" "_law_loan" (defArgs s__law_loan) (defBody s__law_loan) (defScope s__law_loan) [] [] f fd) (b_min : mg "min" = none) (b_range : mg "range" = none) (F__law_draw : Dfn P w K mg base 2 "_law_draw" 1 m__law_draw) (F__law_step : Dfn P w K mg base 5 "_law_step" 4 m__law_step) (F__law_number : Dfn P w K mg base 3 "_law_number" 2 m__law_number) (F__law_places : Dfn P w K mg base 3 "_law_places" 3 m__law_places) : FnOk P w K mg base (L2.CX P w) 6 f fd P__law_loan (spD K mg 3 m__law_loan) := by
  refine fn_mk (k := 5) (g := g__law_loan) F sc__law_loan fun cdv A outer s H E hr => ?_
  have nd := sc__law_loan.nd
  have tk : Takes (cxOf (L2.CX P w) P w K mg base N__law_loan "_law_loan" (defScope s__law_loan) f cdv A outer s H E) (fun cls d _ H => E cls d H) := takes_of rfl rfl rfl rfl
  have po : PassesOwn (model P w) (cxOf (L2.CX P w) P w K mg base N__law_loan "_law_loan" (defScope s__law_loan) f cdv A outer s H E).A (cxOf (L2.CX P w) P w K mg base N__law_loan "_law_loan" (defScope s__law_loan) f cdv A outer s H E).env (cxOf (L2.CX P w) P w K mg base N__law_loan "_law_loan" (defScope s__law_loan) f cdv A outer s H E).xe := passes_of rfl
  exact (dss_cons (ds_set 3 nd (de_op op_addD od_add de_int (de_op op_mod od_mod (de_call (F__law_draw.mono (by decide)) tk hr (da_cons (de_var 0) da_nil)) (de_min2 rfl (da_cons de_int (da_cons (de_var 2) da_nil)) b_min))))
 (dss_cons (ds_set 4 nd (de_op op_mod od_mod (de_call (F__law_draw.mono (by decide)) tk hr (da_cons (de_var 0) da_nil)) de_int))
 (dss_cons (ds_setLc (own := [("_law_k", 7)]) (i := 5) rfl nd rfl rfl (sw_true rfl rfl rfl (by decide +kernel)) (di_rng1 (de_op op_mod od_mod (de_call (F__law_draw.mono (by decide)) tk hr (da_cons (de_var 0) da_nil)) de_int) b_range) (blkOk_by (own := [("_law_k", 7)]) (N := N__law_loan) (sc := defScope s__law_loan) (by decide +kernel)) (by decide) (fun _ _ _ _ _ => (dg_nm 7 nd)) (fun _ _ _ _ _ => dts_nil) (fun _ _ _ _ _ => (de_call (F__law_step.mono (by decide)) takes0 hr (da_cons (de_var 0) (da_cons (de_var 1) (da_cons (de_var 3) (da_cons (de_var 4) da_nil)))))))
 (dss_cons (ds_setLc (own := [("_law_k", 7)]) (i := 6) rfl nd rfl rfl (sw_true rfl rfl rfl (by decide +kernel)) (di_rng1 (de_var 4) b_range) (blkOk_by (own := [("_law_k", 7)]) (N := N__law_loan) (sc := defScope s__law_loan) (by decide +kernel)) (by decide) (fun _ _ _ _ _ => (dg_nm 7 nd)) (fun _ _ _ _ _ => dts_nil) (fun _ _ _ _ _ => (de_call (F__law_number.mono (by decide)) takes0 hr (da_cons (de_var 0) (da_cons (de_var 1) da_nil)))))
 (dss_one (ds_ret (de_lst (da_cons (de_var 3) (da_cons (de_var 4) (da_cons (de_var 5) (da_cons (de_call (F__law_places.mono (by decide)) tk hr (da_cons (de_var 0) (da_cons (de_var 2) (da_cons (de_var 3) da_nil)))) (da_cons (de_var 6) da_nil))))))))))))
theorem d__law_loan {P : Program} {w : World} {K : PySem.W.Frag} {mg : Str → Option Value} {base : Heap} {f : Addr} {fd : FuncData} (F : FunD K "_law_loan" "_law_loan" (defArgs s__law_loan) (defBody s__law_loan) (defScope s__law_loan) [] [] f fd) (hmg : mg "_law_loan" = some (.ref f)) (b_min : mg "min" = none) (b_range : mg "range" = none) (F__law_draw : Dfn P w K mg base 2 "_law_draw" 1 m__law_draw) (F__law_step : Dfn P w K mg base 5 "_law_step" 4 m__law_step) (F__law_number : Dfn P w K mg base 3 "_law_number" 2 m__law_number) (F__law_places : Dfn P w K mg base 3 "_law_places" 3 m__law_places) : Dfn P w K mg base 6 "_law_loan" 3 m__law_loan :=
  dfn_of F hmg (FunD.bindsN F fun _ _ _ _ _ _ us hl => match us, hl with | [_, _, _], _ => rfl) (w__law_loan F b_min b_range F__law_draw F__law_step F__law_number F__law_places)

abbrev N_Vault_found : List Str := ["self", "ticket"]
abbrev P_Vault_found : List Str := ["self", "ticket"]
theorem sc_Vault_found : FnScope N_Vault_found P_Vault_found (defScope s_Vault_found) := ⟨rfl, rfl, rfl, by decide +kernel, rfl, by decide +kernel, by decide +kernel⟩
noncomputable def g_Vault_found : SF := (sSeq (sIf (tOr (tNot (tTru (eCall m_is_number (aCons (eVar 1) (aCons (eUn lenD (eUn (fldG "Vault" "loans") (eVar 0))) aNil))))) (tVal (isN (eOp ixG (eUn (fldG "Vault" "loans") (eVar 0)) (eVar 1))))) (sRaise "BadTicket") sNil)
 (sRet (eOp ixG (eUn (fldG "Vault" "loans") (eVar 0)) (eVar 1))))
noncomputable def m_Vault_found : List D → Hd → Option (Rs D) := mir N_Vault_found.length P_Vault_found.length g_Vault_found
theorem w_Vault_found {P : Program} {w : World} {K : PySem.W.Frag} {mg : Str → Option Value} {base : Heap} {f : Addr} {fd : FuncData} (F : FunD K "found" "Vault.found" (defArgs s_Vault_found) (defBody s_Vault_found) (defScope s_Vault_found) [] [] f fd) (b_len : mg "len" = none) (F_is_number : Dfn P w K mg base 2 "is_number" 2 m_is_number) (cf_Vault : ClsK K mg "Vault" ["modulus", "cells", "loans"]) (x_BadTicket : XCl K mg "BadTicket") : FnOk P w K mg base (L2.CX P w) 3 f fd P_Vault_found (spD K mg 2 m_Vault_found) := by
  refine fn_mk (k := 2) (g := g_Vault_found) F sc_Vault_found fun cdv A outer s H E hr => ?_
  have nd := sc_Vault_found.nd
  have tk : Takes (cxOf (L2.CX P w) P w K mg base N_Vault_found "Vault.found" (defScope s_Vault_found) f cdv A outer s H E) (fun cls d _ H => E cls d H) := takes_of rfl rfl rfl rfl
  have po : PassesOwn (model P w) (cxOf (L2.CX P w) P w K mg base N_Vault_found "Vault.found" (defScope s_Vault_found) f cdv A outer s H E).A (cxOf (L2.CX P w) P w K mg base N_Vault_found "Vault.found" (defScope s_Vault_found) f cdv A outer s H E).env (cxOf (L2.CX P w) P w K mg base N_Vault_found "Vault.found" (defScope s_Vault_found) f cdv A outer s H E).xe := passes_of rfl
  exact (dss_cons (ds_if (dt_w (dw_or (dt_not (dt_tru (de_call (F_is_number.mono (by decide)) tk hr (da_cons (de_var 1) (da_cons (de_len (de_fld cf_Vault (List.Mem.tail _ (List.Mem.tail _ (List.Mem.head _))) (de_var 0)) b_len) da_nil))))) (dw_or1 (dt_isN (de_ix (de_fld cf_Vault (List.Mem.tail _ (List.Mem.tail _ (List.Mem.head _))) (de_var 0)) (de_var 1)))))) (dss_one (ds_raise rfl tk x_BadTicket)) dss_nil)
 (dss_one (ds_ret (de_ix (de_fld cf_Vault (List.Mem.tail _ (List.Mem.tail _ (List.Mem.head _))) (de_var 0)) (de_var 1)))))
theorem d_Vault_found {P : Program} {w : World} {K : PySem.W.Frag} {mg : Str → Option Value} {base : Heap} {f : Addr} {fd : FuncData} (F : FunD K "found" "Vault.found" (defArgs s_Vault_found) (defBody s_Vault_found) (defScope s_Vault_found) [] [] f fd) {C : Addr} (hC : mg "Vault" = some (.ref C)) (hcl : Cls K C) (hm : Meth K C "found" f) (b_len : mg "len" = none) (F_is_number : Dfn P w K mg base 2 "is_number" 2 m_is_number) (cf_Vault : ClsK K mg "Vault" ["modulus", "cells", "loans"]) (x_BadTicket : XCl K mg "BadTicket") : Mth P w K mg base 3 "Vault" "found" 2 m_Vault_found :=
  ⟨fun ds M o e => mir_len e, C, f, fd, P_Vault_found, hC, hcl, hm, (FunD.bindsN F fun _ _ _ _ _ _ us hl => match us, hl with | [_, _], _ => rfl), (w_Vault_found F b_len F_is_number cf_Vault x_BadTicket)⟩

abbrev N_Vault_blocked : List Str := ["self", "ticket", "places", "loan", "place"]
abbrev P_Vault_blocked : List Str := ["self", "ticket"]
theorem sc_Vault_blocked : FnScope N_Vault_blocked P_Vault_blocked (defScope s_Vault_blocked) := ⟨rfl, rfl, rfl, by decide +kernel, rfl, by decide +kernel, by decide +kernel⟩
noncomputable def g_Vault_blocked : SF := (sSeq (sAsg 2 (eUn (fldG "Loan" "places") (eOp ixG (eUn (fldG "Vault" "loans") (eVar 0)) (eVar 1))))
 (sSeq (sFor (seqI (eSl (eUn (fldG "Vault" "loans") (eVar 0)) (oSome (eOp addG (eVar 1) (eC (.int 1)))) oNone)) (.nm 3) (sIf (tAnd (tVal (isNN (eVar 3))) (tTru (eUn anyG (eLc (seqI (eUn (fldG "Loan" "places") (eVar 3))) (.nm 4) tYes (eOp (inG false) (eVar 4) (eVar 2)) [4])))) (sRet (eC (.bl true))) sNil))
 (sRet (eC (.bl false)))))
noncomputable def m_Vault_blocked : List D → Hd → Option (Rs D) := mir N_Vault_blocked.length P_Vault_blocked.length g_Vault_blocked
theorem w_Vault_blocked {P : Program} {w : World} {K : PySem.W.Frag} {mg : Str → Option Value} {base : Heap} {f : Addr} {fd : FuncData} (F : FunD K "blocked" "Vault.blocked" (defArgs s_Vault_blocked) (defBody s_Vault_blocked) (defScope s_Vault_blocked) [] [] f fd) (b_any : mg "any" = none) (cf_Vault : ClsK K mg "Vault" ["modulus", "cells", "loans"]) (cf_Loan : ClsK K mg "Loan" ["program", "places", "given", "begun", "done"]) : FnOk P w K mg base (L2.CX P w) 1 f fd P_Vault_blocked (spD K mg 2 m_Vault_blocked) := by
  refine fn_mk (k := 0) (g := g_Vault_blocked) F sc_Vault_blocked fun cdv A outer s H E hr => ?_
  have nd := sc_Vault_blocked.nd
  have tk : Takes (cxOf (L2.CX P w) P w K mg base N_Vault_blocked "Vault.blocked" (defScope s_Vault_blocked) f cdv A outer s H E) (fun cls d _ H => E cls d H) := takes_of rfl rfl rfl rfl
  have po : PassesOwn (model P w) (cxOf (L2.CX P w) P w K mg base N_Vault_blocked "Vault.blocked" (defScope s_Vault_blocked) f cdv A outer s H E).A (cxOf (L2.CX P w) P w K mg base N_Vault_blocked "Vault.blocked" (defScope s_Vault_blocked) f cdv A outer s H E).env (cxOf (L2.CX P w) P w K mg base N_Vault_blocked "Vault.blocked" (defScope s_Vault_blocked) f cdv A outer s H E).xe := passes_of rfl
  exact (dss_cons (ds_set 2 nd (de_fld cf_Loan (List.Mem.tail _ (List.Mem.head _)) (de_ix (de_fld cf_Vault (List.Mem.tail _ (List.Mem.tail _ (List.Mem.head _))) (de_var 0)) (de_var 1))))
 (dss_cons (ds_for po rfl (di_seq (de_slice (de_fld cf_Vault (List.Mem.tail _ (List.Mem.tail _ (List.Mem.head _))) (de_var 0)) (do_some (de_op op_addD od_add (de_var 1) de_int)) do_none)) (dg_nm 3 nd) (dss_one (ds_if (dt_w (dw_and (dt_isNN (de_var 3)) (dw_and1 (dt_tru (de_any rfl (de_lc (own := [("place", 4)]) rfl nd (di_seq (de_fld cf_Loan (List.Mem.tail _ (List.Mem.head _)) (de_var 3))) (blkOk_by (own := [("place", 4)]) (N := N_Vault_blocked) (sc := defScope s_Vault_blocked) (by decide +kernel)) (by decide) (fun _ _ _ _ _ => (dg_nm 4 nd)) (fun _ _ _ _ _ => dts_nil) (fun _ _ _ _ _ => (de_cmp op_in_seq od_in (de_var 4) (de_var 2) (hm := by with_unfolding_all rfl)))) b_any))))) (dss_one (ds_ret de_bl)) dss_nil)))
 (dss_one (ds_ret de_bl))))
theorem d_Vault_blocked {P : Program} {w : World} {K : PySem.W.Frag} {mg : Str → Option Value} {base : Heap} {f : Addr} {fd : FuncData} (F : FunD K "blocked" "Vault.blocked" (defArgs s_Vault_blocked) (defBody s_Vault_blocked) (defScope s_Vault_blocked) [] [] f fd) {C : Addr} (hC : mg "Vault" = some (.ref C)) (hcl : Cls K C) (hm : Meth K C "blocked" f) (b_any : mg "any" = none) (cf_Vault : ClsK K mg "Vault" ["modulus", "cells", "loans"]) (cf_Loan : ClsK K mg "Loan" ["program", "places", "given", "begun", "done"]) : Mth P w K mg base 1 "Vault" "blocked" 2 m_Vault_blocked :=
  ⟨fun ds M o e => mir_len e, C, f, fd, P_Vault_blocked, hC, hcl, hm, (FunD.bindsN F fun _ _ _ _ _ _ us hl => match us, hl with | [_, _], _ => rfl), (w_Vault_blocked F b_any cf_Vault cf_Loan)⟩

abbrev N_inverse_of : List Str := ["n", "modulus", "rest", "other", "mine", "yours", "times"]
abbrev P_inverse_of : List Str := ["n", "modulus"]
theorem sc_inverse_of : FnScope N_inverse_of P_inverse_of (defScope s_inverse_of) := ⟨rfl, rfl, rfl, by decide +kernel, rfl, by decide +kernel, by decide +kernel⟩
noncomputable def g_inverse_of : SF := (sSeq (sPar 2 3 (eOp modG (eVar 0) (eVar 1)) (eVar 1))
 (sSeq (sAsgT [4, 5] (eTup (aCons (eC (.int 1)) (aCons (eC (.int 0)) aNil))))
 (sSeq (sWhile (tVal (eOp gtG (eVar 3) (eC (.int 0)))) (sSeq (sAsg 6 (eOp divG (eVar 2) (eVar 3)))
 (sSeq (sPar 2 3 (eVar 3) (eOp subG (eVar 2) (eOp mulG (eVar 6) (eVar 3))))
 (sPar 4 5 (eVar 5) (eOp subG (eVar 4) (eOp mulG (eVar 6) (eVar 5)))))))
 (sSeq (sIf (tVal (eOp neG (eVar 2) (eC (.int 1)))) (sRet (eC .non)) sNil)
 (sRet (eOp modG (eVar 4) (eVar 1)))))))
noncomputable def m_inverse_of : List D → Hd → Option (Rs D) := mir N_inverse_of.length P_inverse_of.length g_inverse_of
theorem w_inverse_of {P : Program} {w : World} {K : PySem.W.Frag} {mg : Str → Option Value} {base : Heap} {f : Addr} {fd : FuncData} (F : FunD K "inverse_of" "inverse_of" (defArgs s_inverse_of) (defBody s_inverse_of) (defScope s_inverse_of) [] [] f fd) : FnOk P w K mg base (L2.CX P w) 1 f fd P_inverse_of (spD K mg 2 m_inverse_of) := by
  refine fn_mk (k := 0) (g := g_inverse_of) F sc_inverse_of fun cdv A outer s H E hr => ?_
  have nd := sc_inverse_of.nd
  have tk : Takes (cxOf (L2.CX P w) P w K mg base N_inverse_of "inverse_of" (defScope s_inverse_of) f cdv A outer s H E) (fun cls d _ H => E cls d H) := takes_of rfl rfl rfl rfl
  have po : PassesOwn (model P w) (cxOf (L2.CX P w) P w K mg base N_inverse_of "inverse_of" (defScope s_inverse_of) f cdv A outer s H E).A (cxOf (L2.CX P w) P w K mg base N_inverse_of "inverse_of" (defScope s_inverse_of) f cdv A outer s H E).env (cxOf (L2.CX P w) P w K mg base N_inverse_of "inverse_of" (defScope s_inverse_of) f cdv A outer s H E).xe := passes_of rfl
  exact (dss_cons (ds_par 2 3 rfl nd (de_op op_mod od_mod (de_var 0) (de_var 1)) (de_var 1))
 (dss_cons (ds_asgT (de_tup (da_cons de_int (da_cons de_int da_nil))) (dg_tp rfl (dgs_cons 4 nd (dgs_cons 5 nd dgs_nil))))
 (dss_cons (ds_while (hp := po) (dt_cmp op_gt od_gt (de_var 3) de_int) (dss_cons (ds_set 6 nd (de_op op_fdivW od_div (de_var 2) (de_var 3)))
 (dss_cons (ds_par 2 3 rfl nd (de_var 3) (de_op op_sub od_sub (de_var 2) (de_op op_mulD od_mul (de_var 6) (de_var 3))))
 (dss_one (ds_par 4 5 rfl nd (de_var 5) (de_op op_sub od_sub (de_var 4) (de_op op_mulD od_mul (de_var 6) (de_var 5))))))))
 (dss_cons (ds_if (dt_cmp (op_neP hr.units) od_ne (de_var 2) de_int) (dss_one (ds_ret de_non)) dss_nil)
 (dss_one (ds_ret (de_op op_mod od_mod (de_var 4) (de_var 1))))))))
theorem d_inverse_of {P : Program} {w : World} {K : PySem.W.Frag} {mg : Str → Option Value} {base : Heap} {f : Addr} {fd : FuncData} (F : FunD K "inverse_of" "inverse_of" (defArgs s_inverse_of) (defBody s_inverse_of) (defScope s_inverse_of) [] [] f fd) (hmg : mg "inverse_of" = some (.ref f)) : Dfn P w K mg base 1 "inverse_of" 2 m_inverse_of :=
  dfn_of F hmg (FunD.bindsN F fun _ _ _ _ _ _ us hl => match us, hl with | [_, _], _ => rfl) (w_inverse_of F)

abbrev N_weights : List Str := ["size", "prime", "x", "found", "i", "above", "below", "j"]
abbrev P_weights : List Str := ["size", "prime", "x"]
theorem sc_weights : FnScope N_weights P_weights (defScope s_weights) := ⟨rfl, rfl, rfl, by decide +kernel, rfl, by decide +kernel, by decide +kernel⟩
noncomputable def g_weights : SF := (sSeq (sAsg 3 (eLst aNil))
 (sSeq (sFor (rng1 (eVar 0)) (.nm 4) (sSeq (sAsgT [5, 6] (eTup (aCons (eC (.int 1)) (aCons (eC (.int 1)) aNil))))
 (sSeq (sFor (rng1 (eVar 0)) (.nm 7) (sIf (tVal (eOp neG (eVar 7) (eVar 4))) (sSeq (sAsg 5 (eOp modG (eOp mulG (eVar 5) (eOp subG (eVar 2) (eVar 7))) (eVar 1)))
 (sAsg 6 (eOp modG (eOp mulG (eVar 6) (eOp subG (eVar 4) (eVar 7))) (eVar 1)))) sNil))
 (sDrop (eLm appendG (eVar 3) (aCons (eOp modG (eOp mulG (eVar 5) (eCall m_inverse_of (aCons (eVar 6) (aCons (eVar 1) aNil)))) (eVar 1)) aNil))))))
 (sRet (eVar 3))))
noncomputable def m_weights : List D → Hd → Option (Rs D) := mir N_weights.length P_weights.length g_weights
theorem w_weights {P : Program} {w : World} {K : PySem.W.Frag} {mg : Str → Option Value} {base : Heap} {f : Addr} {fd : FuncData} (F : FunD K "weights" "weights" (defArgs s_weights) (defBody s_weights) (defScope s_weights) [] [] f fd) (b_range : mg "range" = none) (F_inverse_of : Dfn P w K mg base 1 "inverse_of" 2 m_inverse_of) : FnOk P w K mg base (L2.CX P w) 2 f fd P_weights (spD K mg 3 m_weights) := by
  refine fn_mk (k := 1) (g := g_weights) F sc_weights fun cdv A outer s H E hr => ?_
  have nd := sc_weights.nd
  have tk : Takes (cxOf (L2.CX P w) P w K mg base N_weights "weights" (defScope s_weights) f cdv A outer s H E) (fun cls d _ H => E cls d H) := takes_of rfl rfl rfl rfl
  have po : PassesOwn (model P w) (cxOf (L2.CX P w) P w K mg base N_weights "weights" (defScope s_weights) f cdv A outer s H E).A (cxOf (L2.CX P w) P w K mg base N_weights "weights" (defScope s_weights) f cdv A outer s H E).env (cxOf (L2.CX P w) P w K mg base N_weights "weights" (defScope s_weights) f cdv A outer s H E).xe := passes_of rfl
  exact (dss_cons (ds_set 3 nd (de_lst da_nil))
 (dss_cons (ds_for po rfl (di_rng1 (de_var 0) b_range) (dg_nm 4 nd) (dss_cons (ds_asgT (de_tup (da_cons de_int (da_cons de_int da_nil))) (dg_tp rfl (dgs_cons 5 nd (dgs_cons 6 nd dgs_nil))))
 (dss_cons (ds_for po rfl (di_rng1 (de_var 0) b_range) (dg_nm 7 nd) (dss_one (ds_if (dt_cmp (op_neP hr.units) od_ne (de_var 7) (de_var 4)) (dss_cons (ds_set 5 nd (de_op op_mod od_mod (de_op op_mulD od_mul (de_var 5) (de_op op_sub od_sub (de_var 2) (de_var 7))) (de_var 1)))
 (dss_one (ds_set 6 nd (de_op op_mod od_mod (de_op op_mulD od_mul (de_var 6) (de_op op_sub od_sub (de_var 4) (de_var 7))) (de_var 1))))) dss_nil)))
 (dss_one (ds_drop (de_append (de_var 3) (da_cons (de_op op_mod od_mod (de_op op_mulD od_mul (de_var 5) (de_call (F_inverse_of.mono (by decide)) tk hr (da_cons (de_var 6) (da_cons (de_var 1) da_nil)))) (de_var 1)) da_nil)))))))
 (dss_one (ds_ret (de_var 3)))))
theorem d_weights {P : Program} {w : World} {K : PySem.W.Frag} {mg : Str → Option Value} {base : Heap} {f : Addr} {fd : FuncData} (F : FunD K "weights" "weights" (defArgs s_weights) (defBody s_weights) (defScope s_weights) [] [] f fd) (hmg : mg "weights" = some (.ref f)) (b_range : mg "range" = none) (F_inverse_of : Dfn P w K mg base 1 "inverse_of" 2 m_inverse_of) : Dfn P w K mg base 2 "weights" 3 m_weights :=
  dfn_of F hmg (FunD.bindsN F fun _ _ _ _ _ _ us hl => match us, hl with | [_, _, _], _ => rfl) (w_weights F b_range F_inverse_of)

abbrev N_interpolate : List Str := ["table", "prime", "x", "y", "size", "rows", "columns", "total", "row", "weight", "part", "entry", "other"]
abbrev P_interpolate : List Str := ["table", "prime", "x", "y"]
theorem sc_interpolate : FnScope N_interpolate P_interpolate (defScope s_interpolate) := ⟨rfl, rfl, rfl, by decide +kernel, rfl, by decide +kernel, by decide +kernel⟩
noncomputable def g_interpolate : SF := (sSeq (sAsg 4 (eUn lenD (eVar 0)))
 (sSeq (sIf (tAnd (tVal (eChain leG ltG (eC (.int 0)) (eVar 2) (eVar 4))) (tVal (eChain leG ltG (eC (.int 0)) (eVar 3) (eVar 4)))) (sRet (eOp modG (eOp ixG (eOp ixG (eVar 0) (eVar 2)) (eVar 3)) (eVar 1))) sNil)
 (sSeq (sAsg 5 (eCall m_weights (aCons (eVar 4) (aCons (eVar 1) (aCons (eVar 2) aNil)))))
 (sSeq (sAsg 6 (eCall m_weights (aCons (eVar 4) (aCons (eVar 1) (aCons (eVar 3) aNil)))))
 (sSeq (sAsg 7 (eC (.int 0)))
 (sSeq (sFor (zip2I (eVar 0) (eVar 5)) (.tp [8, 9]) (sSeq (sAsg 10 (eC (.int 0)))
 (sSeq (sFor (zip2I (eVar 8) (eVar 6)) (.tp [11, 12]) (sAug addIG 10 (eOp mulG (eVar 11) (eVar 12))))
 (sAsg 7 (eOp modG (eOp addG (eVar 7) (eOp mulG (eVar 9) (eVar 10))) (eVar 1))))))
 (sRet (eVar 7))))))))
noncomputable def m_interpolate : List D → Hd → Option (Rs D) := mir N_interpolate.length P_interpolate.length g_interpolate
theorem w_interpolate {P : Program} {w : World} {K : PySem.W.Frag} {mg : Str → Option Value} {base : Heap} {f : Addr} {fd : FuncData} (F : FunD K "interpolate" "interpolate" (defArgs s_interpolate) (defBody s_interpolate) (defScope s_interpolate) [] [] f fd) (b_len : mg "len" = none) (b_zip : mg "zip" = none) (F_weights : Dfn P w K mg base 2 "weights" 3 m_weights) : FnOk P w K mg base (L2.CX P w) 3 f fd P_interpolate (spD K mg 4 m_interpolate) := by
  refine fn_mk (k := 2) (g := g_interpolate) F sc_interpolate fun cdv A outer s H E hr => ?_
  have nd := sc_interpolate.nd
  have tk : Takes (cxOf (L2.CX P w) P w K mg base N_interpolate "interpolate" (defScope s_interpolate) f cdv A outer s H E) (fun cls d _ H => E cls d H) := takes_of rfl rfl rfl rfl
  have po : PassesOwn (model P w) (cxOf (L2.CX P w) P w K mg base N_interpolate "interpolate" (defScope s_interpolate) f cdv A outer s H E).A (cxOf (L2.CX P w) P w K mg base N_interpolate "interpolate" (defScope s_interpolate) f cdv A outer s H E).env (cxOf (L2.CX P w) P w K mg base N_interpolate "interpolate" (defScope s_interpolate) f cdv A outer s H E).xe := passes_of rfl
  exact (dss_cons (ds_set 4 nd (de_len (de_var 0) b_len))
 (dss_cons (ds_if (dt_w (dw_and (dt_chain op_le od_le op_lt od_lt de_int (de_var 2) (de_var 4)) (dw_and1 (dt_chain op_le od_le op_lt od_lt de_int (de_var 3) (de_var 4))))) (dss_one (ds_ret (de_op op_mod od_mod (de_ix (de_ix (de_var 0) (de_var 2)) (de_var 3)) (de_var 1)))) dss_nil)
 (dss_cons (ds_set 5 nd (de_call (F_weights.mono (by decide)) tk hr (da_cons (de_var 4) (da_cons (de_var 1) (da_cons (de_var 2) da_nil)))))
 (dss_cons (ds_set 6 nd (de_call (F_weights.mono (by decide)) tk hr (da_cons (de_var 4) (da_cons (de_var 1) (da_cons (de_var 3) da_nil)))))
 (dss_cons (ds_set 7 nd de_int)
 (dss_cons (ds_for po rfl (di_zip (de_var 0) (de_var 5) b_zip) (dg_tp rfl (dgs_cons 8 nd (dgs_cons 9 nd dgs_nil))) (dss_cons (ds_set 10 nd de_int)
 (dss_cons (ds_for po rfl (di_zip (de_var 8) (de_var 6) b_zip) (dg_tp rfl (dgs_cons 11 nd (dgs_cons 12 nd dgs_nil))) (dss_one (ds_aug 10 nd (ip_op iop_add) od_addI (de_op op_mulD od_mul (de_var 11) (de_var 12)))))
 (dss_one (ds_set 7 nd (de_op op_mod od_mod (de_op op_addD od_add (de_var 7) (de_op op_mulD od_mul (de_var 9) (de_var 10))) (de_var 1)))))))
 (dss_one (ds_ret (de_var 7)))))))))
theorem d_interpolate {P : Program} {w : World} {K : PySem.W.Frag} {mg : Str → Option Value} {base : Heap} {f : Addr} {fd : FuncData} (F : FunD K "interpolate" "interpolate" (defArgs s_interpolate) (defBody s_interpolate) (defScope s_interpolate) [] [] f fd) (hmg : mg "interpolate" = some (.ref f)) (b_len : mg "len" = none) (b_zip : mg "zip" = none) (F_weights : Dfn P w K mg base 2 "weights" 3 m_weights) : Dfn P w K mg base 3 "interpolate" 4 m_interpolate :=
  dfn_of F hmg (FunD.bindsN F fun _ _ _ _ _ _ us hl => match us, hl with | [_, _, _, _], _ => rfl) (w_interpolate F b_len b_zip F_weights)

abbrev N_perform_steps : List Str := ["step", "memory", "given", "modulus", "total", "kind", "index", "kept", "value"]
abbrev P_perform_steps : List Str := ["step", "memory", "given", "modulus"]
theorem sc_perform_steps : FnScope N_perform_steps P_perform_steps (defScope s_perform_steps) := ⟨rfl, rfl, rfl, by decide +kernel, rfl, by decide +kernel, by decide +kernel⟩
noncomputable def g_perform_steps : SF := (sIf (tVal (eOp eqG (eOp ixG (eVar 0) (eC (.int 0))) (eC (.str "add")))) (sSeq (sAsg 4 (eOp ixG (eVar 0) (eC (.int 2))))
 (sSeq (sFor (seqI (eOp ixG (eVar 0) (eC (.int 3)))) (.tp [5, 6]) (sAsg 4 (eOp modG (eOp mulG (eVar 4) (eIf (tVal (eOp eqG (eVar 5) (eC (.str "cell")))) (eOp ixG (eVar 1) (eVar 6)) (eOp ixG (eVar 2) (eVar 6)))) (eVar 3))))
 (sSetI (eOp modG (eOp addG (eOp ixG (eVar 1) (eOp ixG (eVar 0) (eC (.int 1)))) (eVar 4)) (eVar 3)) (eVar 1) (eOp ixG (eVar 0) (eC (.int 1)))))) (sIf (tVal (eOp eqG (eOp ixG (eVar 0) (eC (.int 0))) (eC (.str "scale")))) (sSetI (eOp modG (eOp mulG (eOp ixG (eVar 1) (eOp ixG (eVar 0) (eC (.int 1)))) (eOp ixG (eVar 0) (eC (.int 2)))) (eVar 3)) (eVar 1) (eOp ixG (eVar 0) (eC (.int 1)))) (sIf (tVal (eOp eqG (eOp ixG (eVar 0) (eC (.int 0))) (eC (.str "swap")))) (sSeq (sAsg 7 (eOp ixG (eVar 1) (eOp ixG (eVar 0) (eC (.int 1)))))
 (sSeq (sSetI (eOp ixG (eVar 1) (eOp ixG (eVar 0) (eC (.int 2)))) (eVar 1) (eOp ixG (eVar 0) (eC (.int 1))))
 (sSetI (eVar 7) (eVar 1) (eOp ixG (eVar 0) (eC (.int 2)))))) (sSeq (sAsg 8 (eCall m_interpolate (aCons (eOp ixG (eVar 0) (eC (.int 3))) (aCons (eVar 3) (aCons (eOp ixG (eVar 1) (eOp ixG (eVar 0) (eC (.int 4)))) (aCons (eOp ixG (eVar 1) (eOp ixG (eVar 0) (eC (.int 5)))) aNil))))))
 (sSetI (eOp modG (eOp addG (eOp ixG (eVar 1) (eOp ixG (eVar 0) (eC (.int 1)))) (eOp mulG (eOp ixG (eVar 0) (eC (.int 2))) (eVar 8))) (eVar 3)) (eVar 1) (eOp ixG (eVar 0) (eC (.int 1))))))))
noncomputable def m_perform_steps : List D → Hd → Option (Rs D) := mir N_perform_steps.length P_perform_steps.length g_perform_steps
theorem w_perform_steps {P : Program} {w : World} {K : PySem.W.Frag} {mg : Str → Option Value} {base : Heap} {f : Addr} {fd : FuncData} (F : FunD K "perform" "perform" (defArgs s_perform_steps) (defBody s_perform_steps) (defScope s_perform_steps) [] [] f fd) (F_interpolate : Dfn P w K mg base 3 "interpolate" 4 m_interpolate) : FnOk P w K mg base (L2.CX P w) 4 f fd P_perform_steps (spD K mg 4 m_perform_steps) := by
  refine fn_mk (k := 3) (g := g_perform_steps) F sc_perform_steps fun cdv A outer s H E hr => ?_
  have nd := sc_perform_steps.nd
  have tk : Takes (cxOf (L2.CX P w) P w K mg base N_perform_steps "perform" (defScope s_perform_steps) f cdv A outer s H E) (fun cls d _ H => E cls d H) := takes_of rfl rfl rfl rfl
  have po : PassesOwn (model P w) (cxOf (L2.CX P w) P w K mg base N_perform_steps "perform" (defScope s_perform_steps) f cdv A outer s H E).A (cxOf (L2.CX P w) P w K mg base N_perform_steps "perform" (defScope s_perform_steps) f cdv A outer s H E).env (cxOf (L2.CX P w) P w K mg base N_perform_steps "perform" (defScope s_perform_steps) f cdv A outer s H E).xe := passes_of rfl
  exact (dss_one (ds_if (dt_cmp (op_eqP hr.units) od_eq (de_ix (de_var 0) de_int) de_str) (dss_cons (ds_set 4 nd (de_ix (de_var 0) de_int))
 (dss_cons (ds_for po rfl (di_seq (de_ix (de_var 0) de_int)) (dg_tp rfl (dgs_cons 5 nd (dgs_cons 6 nd dgs_nil))) (dss_one (ds_set 4 nd (de_op op_mod od_mod (de_op op_mulD od_mul (de_var 4) (de_if (dt_cmp (op_eqP hr.units) od_eq (de_var 5) de_str) (de_ix (de_var 1) (de_var 6)) (de_ix (de_var 2) (de_var 6)))) (de_var 3)))))
 (dss_one (ds_setI (de_op op_mod od_mod (de_op op_addD od_add (de_ix (de_var 1) (de_ix (de_var 0) de_int)) (de_var 4)) (de_var 3)) (de_var 1) (de_ix (de_var 0) de_int))))) (dss_one (ds_if (dt_cmp (op_eqP hr.units) od_eq (de_ix (de_var 0) de_int) de_str) (dss_one (ds_setI (de_op op_mod od_mod (de_op op_mulD od_mul (de_ix (de_var 1) (de_ix (de_var 0) de_int)) (de_ix (de_var 0) de_int)) (de_var 3)) (de_var 1) (de_ix (de_var 0) de_int))) (dss_one (ds_if (dt_cmp (op_eqP hr.units) od_eq (de_ix (de_var 0) de_int) de_str) (dss_cons (ds_set 7 nd (de_ix (de_var 1) (de_ix (de_var 0) de_int)))
 (dss_cons (ds_setI (de_ix (de_var 1) (de_ix (de_var 0) de_int)) (de_var 1) (de_ix (de_var 0) de_int))
 (dss_one (ds_setI (de_var 7) (de_var 1) (de_ix (de_var 0) de_int))))) (dss_cons (ds_set 8 nd (de_call (F_interpolate.mono (by decide)) tk hr (da_cons (de_ix (de_var 0) de_int) (da_cons (de_var 3) (da_cons (de_ix (de_var 1) (de_ix (de_var 0) de_int)) (da_cons (de_ix (de_var 1) (de_ix (de_var 0) de_int)) da_nil))))))
 (dss_one (ds_setI (de_op op_mod od_mod (de_op op_addD od_add (de_ix (de_var 1) (de_ix (de_var 0) de_int)) (de_op op_mulD od_mul (de_ix (de_var 0) de_int) (de_var 8))) (de_var 3)) (de_var 1) (de_ix (de_var 0) de_int))))))))))
theorem d_perform_steps {P : Program} {w : World} {K : PySem.W.Frag} {mg : Str → Option Value} {base : Heap} {f : Addr} {fd : FuncData} (F : FunD K "perform" "perform" (defArgs s_perform_steps) (defBody s_perform_steps) (defScope s_perform_steps) [] [] f fd) (hmg : mg "perform_steps" = some (.ref f)) (F_interpolate : Dfn P w K mg base 3 "interpolate" 4 m_interpolate) : Dfn P w K mg base 4 "perform_steps" 4 m_perform_steps :=
  dfn_as F hmg (FunD.bindsN F fun _ _ _ _ _ _ us hl => match us, hl with | [_, _, _, _], _ => rfl) (w_perform_steps F F_interpolate)

abbrev N_Vault_perform : List Str := ["self", "loan", "step", "cells", "place", "value"]
abbrev P_Vault_perform : List Str := ["self", "loan", "step"]
theorem sc_Vault_perform : FnScope N_Vault_perform P_Vault_perform (defScope s_Vault_perform) := ⟨rfl, rfl, rfl, by decide +kernel, rfl, by decide +kernel, by decide +kernel⟩
noncomputable def g_Vault_perform : SF := (sSeq (sAsg 3 (eLc (seqI (eUn (fldG "Loan" "places") (eVar 1))) (.nm 4) tYes (eOp ixG (eUn (fldG "Vault" "cells") (eVar 0)) (eVar 4)) [4]))
 (sSeq (sDrop (eCall m_perform_steps (aCons (eVar 2) (aCons (eVar 3) (aCons (eUn (fldG "Loan" "given") (eVar 1)) (aCons (eUn (fldG "Vault" "modulus") (eVar 0)) aNil))))))
 (sFor (zip2I (eUn (fldG "Loan" "places") (eVar 1)) (eVar 3)) (.tp [4, 5]) (sSetI (eVar 5) (eUn (fldG "Vault" "cells") (eVar 0)) (eVar 4)))))
noncomputable def m_Vault_perform : List D → Hd → Option (Rs D) := mir N_Vault_perform.length P_Vault_perform.length g_Vault_perform
theorem w_Vault_perform {P : Program} {w : World} {K : PySem.W.Frag} {mg : Str → Option Value} {base : Heap} {f : Addr} {fd : FuncData} (F : FunD K "perform" "Vault.perform" (defArgs s_Vault_perform) (defBody s_Vault_perform) (defScope s_Vault_perform) [] [] f fd) (b_zip : mg "zip" = none) (F_perform_steps : Dfn P w K mg base 4 "perform_steps" 4 m_perform_steps) (cf_Loan : ClsK K mg "Loan" ["program", "places", "given", "begun", "done"]) (cf_Vault : ClsK K mg "Vault" ["modulus", "cells", "loans"]) : FnOk P w K mg base (L2.CX P w) 5 f fd P_Vault_perform (spD K mg 3 m_Vault_perform) := by
  refine fn_mk (k := 4) (g := g_Vault_perform) F sc_Vault_perform fun cdv A outer s H E hr => ?_
  have nd := sc_Vault_perform.nd
  have tk : Takes (cxOf (L2.CX P w) P w K mg base N_Vault_perform "Vault.perform" (defScope s_Vault_perform) f cdv A outer s H E) (fun cls d _ H => E cls d H) := takes_of rfl rfl rfl rfl
  have po : PassesOwn (model P w) (cxOf (L2.CX P w) P w K mg base N_Vault_perform "Vault.perform" (defScope s_Vault_perform) f cdv A outer s H E).A (cxOf (L2.CX P w) P w K mg base N_Vault_perform "Vault.perform" (defScope s_Vault_perform) f cdv A outer s H E).env (cxOf (L2.CX P w) P w K mg base N_Vault_perform "Vault.perform" (defScope s_Vault_perform) f cdv A outer s H E).xe := passes_of rfl
  exact (dss_cons (ds_setLc (own := [("place", 4)]) (i := 3) rfl nd rfl rfl (sw_true rfl rfl rfl (by decide +kernel)) (di_seq (de_fld cf_Loan (List.Mem.tail _ (List.Mem.head _)) (de_var 1))) (blkOk_by (own := [("place", 4)]) (N := N_Vault_perform) (sc := defScope s_Vault_perform) (by decide +kernel)) (by decide) (fun _ _ _ _ _ => (dg_nm 4 nd)) (fun _ _ _ _ _ => dts_nil) (fun _ _ _ _ _ => (de_ix (de_fld cf_Vault (List.Mem.tail _ (List.Mem.head _)) (de_var 0)) (de_var 4))))
 (dss_cons (ds_drop (de_call (F_perform_steps.mono (by decide)) tk hr (da_cons (de_var 2) (da_cons (de_var 3) (da_cons (de_fld cf_Loan (List.Mem.tail _ (List.Mem.tail _ (List.Mem.head _))) (de_var 1)) (da_cons (de_fld cf_Vault (List.Mem.head _) (de_var 0)) da_nil))))))
 (dss_one (ds_for po rfl (di_zip (de_fld cf_Loan (List.Mem.tail _ (List.Mem.head _)) (de_var 1)) (de_var 3) b_zip) (dg_tp rfl (dgs_cons 4 nd (dgs_cons 5 nd dgs_nil))) (dss_one (ds_setI (de_var 5) (de_fld cf_Vault (List.Mem.tail _ (List.Mem.head _)) (de_var 0)) (de_var 4)))))))
theorem d_Vault_perform {P : Program} {w : World} {K : PySem.W.Frag} {mg : Str → Option Value} {base : Heap} {f : Addr} {fd : FuncData} (F : FunD K "perform" "Vault.perform" (defArgs s_Vault_perform) (defBody s_Vault_perform) (defScope s_Vault_perform) [] [] f fd) {C : Addr} (hC : mg "Vault" = some (.ref C)) (hcl : Cls K C) (hm : Meth K C "perform" f) (b_zip : mg "zip" = none) (F_perform_steps : Dfn P w K mg base 4 "perform_steps" 4 m_perform_steps) (cf_Loan : ClsK K mg "Loan" ["program", "places", "given", "begun", "done"]) (cf_Vault : ClsK K mg "Vault" ["modulus", "cells", "loans"]) : Mth P w K mg base 5 "Vault" "perform" 3 m_Vault_perform :=
  ⟨fun ds M o e => mir_len e, C, f, fd, P_Vault_perform, hC, hcl, hm, (FunD.bindsN F fun _ _ _ _ _ _ us hl => match us, hl with | [_, _, _], _ => rfl), (w_Vault_perform F b_zip F_perform_steps cf_Loan cf_Vault)⟩

abbrev N_Vault_advance : List Str := ["self", "ticket", "most", "loan", "steps", "step"]
abbrev P_Vault_advance : List Str := ["self", "ticket", "most"]
theorem sc_Vault_advance : FnScope N_Vault_advance P_Vault_advance (defScope s_Vault_advance) := ⟨rfl, rfl, rfl, by decide +kernel, rfl, by decide +kernel, by decide +kernel⟩
noncomputable def g_Vault_advance : SF := (sSeq (sAsg 3 (eMeth "Vault" "found" m_Vault_found (eVar 0) (aCons (eVar 1) aNil)))
 (sSeq (sIf (tOr (tNot (tTru (eCall m_is_integer (aCons (eVar 2) aNil)))) (tVal (eOp ltG (eVar 2) (eC (.int 0))))) (sRaise "BadMemory") sNil)
 (sSeq (sIf (tTru (eMeth "Vault" "blocked" m_Vault_blocked (eVar 0) (aCons (eVar 1) aNil))) (sRaise "Busy") sNil)
 (sSeq (sAsg 4 (eSl (eUn (fldG "Program" "steps") (eUn (fldG "Loan" "program") (eVar 3))) (oSome (eUn (fldG "Loan" "done") (eVar 3))) (oSome (eOp addG (eUn (fldG "Loan" "done") (eVar 3)) (eVar 2)))))
 (sSeq (sFor (seqI (eVar 4)) (.nm 5) (sDrop (eMeth "Vault" "perform" m_Vault_perform (eVar 0) (aCons (eVar 3) (aCons (eVar 5) aNil)))))
 (sSeq (sFldA "Loan" "done" addIG (eVar 3) (eUn lenD (eVar 4)))
 (sRet (eUn lenD (eVar 4)))))))))
noncomputable def m_Vault_advance : List D → Hd → Option (Rs D) := mir N_Vault_advance.length P_Vault_advance.length g_Vault_advance
theorem w_Vault_advance {P : Program} {w : World} {K : PySem.W.Frag} {mg : Str → Option Value} {base : Heap} {f : Addr} {fd : FuncData} (F : FunD K "advance" "Vault.advance" (defArgs s_Vault_advance) (defBody s_Vault_advance) (defScope s_Vault_advance) [] [] f fd) (b_len : mg "len" = none) (F_Vault_found : Mth P w K mg base 3 "Vault" "found" 2 m_Vault_found) (F_is_integer : Dfn P w K mg base 1 "is_integer" 1 m_is_integer) (F_Vault_blocked : Mth P w K mg base 1 "Vault" "blocked" 2 m_Vault_blocked) (F_Vault_perform : Mth P w K mg base 5 "Vault" "perform" 3 m_Vault_perform) (x_BadMemory : XCl K mg "BadMemory") (x_Busy : XCl K mg "Busy") (cf_Loan : ClsK K mg "Loan" ["program", "places", "given", "begun", "done"]) (cf_Program : ClsK K mg "Program" ["modulus", "cells", "inputs", "steps"]) : FnOk P w K mg base (L2.CX P w) 6 f fd P_Vault_advance (spD K mg 3 m_Vault_advance) := by
  refine fn_mk (k := 5) (g := g_Vault_advance) F sc_Vault_advance fun cdv A outer s H E hr => ?_
  have nd := sc_Vault_advance.nd
  have tk : Takes (cxOf (L2.CX P w) P w K mg base N_Vault_advance "Vault.advance" (defScope s_Vault_advance) f cdv A outer s H E) (fun cls d _ H => E cls d H) := takes_of rfl rfl rfl rfl
  have po : PassesOwn (model P w) (cxOf (L2.CX P w) P w K mg base N_Vault_advance "Vault.advance" (defScope s_Vault_advance) f cdv A outer s H E).A (cxOf (L2.CX P w) P w K mg base N_Vault_advance "Vault.advance" (defScope s_Vault_advance) f cdv A outer s H E).env (cxOf (L2.CX P w) P w K mg base N_Vault_advance "Vault.advance" (defScope s_Vault_advance) f cdv A outer s H E).xe := passes_of rfl
  exact (dss_cons (ds_set 3 nd (de_meth (F_Vault_found.mono (by decide)) tk hr (de_var 0) (da_cons (de_var 1) da_nil)))
 (dss_cons (ds_if (dt_w (dw_or (dt_not (dt_tru (de_call (F_is_integer.mono (by decide)) tk hr (da_cons (de_var 2) da_nil)))) (dw_or1 (dt_cmp op_lt od_lt (de_var 2) de_int)))) (dss_one (ds_raise rfl tk x_BadMemory)) dss_nil)
 (dss_cons (ds_if (dt_tru (de_meth (F_Vault_blocked.mono (by decide)) tk hr (de_var 0) (da_cons (de_var 1) da_nil))) (dss_one (ds_raise rfl tk x_Busy)) dss_nil)
 (dss_cons (ds_set 4 nd (de_slice (de_fld cf_Program (List.Mem.tail _ (List.Mem.tail _ (List.Mem.tail _ (List.Mem.head _)))) (de_fld cf_Loan (List.Mem.head _) (de_var 3))) (do_some (de_fld cf_Loan (List.Mem.tail _ (List.Mem.tail _ (List.Mem.tail _ (List.Mem.tail _ (List.Mem.head _))))) (de_var 3))) (do_some (de_op op_addD od_add (de_fld cf_Loan (List.Mem.tail _ (List.Mem.tail _ (List.Mem.tail _ (List.Mem.tail _ (List.Mem.head _))))) (de_var 3)) (de_var 2)))))
 (dss_cons (ds_for po rfl (di_seq (de_var 4)) (dg_nm 5 nd) (dss_one (ds_drop (de_meth (F_Vault_perform.mono (by decide)) tk hr (de_var 0) (da_cons (de_var 3) (da_cons (de_var 5) da_nil))))))
 (dss_cons (ds_fldaug cf_Loan (List.Mem.tail _ (List.Mem.tail _ (List.Mem.tail _ (List.Mem.tail _ (List.Mem.head _))))) (ip_op iop_add) od_addI (de_var 3) (de_len (de_var 4) b_len))
 (dss_one (ds_ret (de_len (de_var 4) b_len)))))))))
theorem d_Vault_advance {P : Program} {w : World} {K : PySem.W.Frag} {mg : Str → Option Value} {base : Heap} {f : Addr} {fd : FuncData} (F : FunD K "advance" "Vault.advance" (defArgs s_Vault_advance) (defBody s_Vault_advance) (defScope s_Vault_advance) [] [] f fd) {C : Addr} (hC : mg "Vault" = some (.ref C)) (hcl : Cls K C) (hm : Meth K C "advance" f) (b_len : mg "len" = none) (F_Vault_found : Mth P w K mg base 3 "Vault" "found" 2 m_Vault_found) (F_is_integer : Dfn P w K mg base 1 "is_integer" 1 m_is_integer) (F_Vault_blocked : Mth P w K mg base 1 "Vault" "blocked" 2 m_Vault_blocked) (F_Vault_perform : Mth P w K mg base 5 "Vault" "perform" 3 m_Vault_perform) (x_BadMemory : XCl K mg "BadMemory") (x_Busy : XCl K mg "Busy") (cf_Loan : ClsK K mg "Loan" ["program", "places", "given", "begun", "done"]) (cf_Program : ClsK K mg "Program" ["modulus", "cells", "inputs", "steps"]) : Mth P w K mg base 6 "Vault" "advance" 3 m_Vault_advance :=
  ⟨fun ds M o e => mir_len e, C, f, fd, P_Vault_advance, hC, hcl, hm, (FunD.bindsN F fun _ _ _ _ _ _ us hl => match us, hl with | [_, _, _], _ => rfl), (w_Vault_advance F b_len F_Vault_found F_is_integer F_Vault_blocked F_Vault_perform x_BadMemory x_Busy cf_Loan cf_Program)⟩

abbrev N_Vault_answer : List Str := ["self", "ticket", "loan"]
abbrev P_Vault_answer : List Str := ["self", "ticket"]
theorem sc_Vault_answer : FnScope N_Vault_answer P_Vault_answer (defScope s_Vault_answer) := ⟨rfl, rfl, rfl, by decide +kernel, rfl, by decide +kernel, by decide +kernel⟩
noncomputable def g_Vault_answer : SF := (sSeq (sAsg 2 (eMeth "Vault" "found" m_Vault_found (eVar 0) (aCons (eVar 1) aNil)))
 (sSeq (sIf (tTru (eMeth "Vault" "blocked" m_Vault_blocked (eVar 0) (aCons (eVar 1) aNil))) (sRaise "Busy") sNil)
 (sSeq (sIf (tVal (eOp ltG (eUn (fldG "Loan" "done") (eVar 2)) (eUn lenD (eUn (fldG "Program" "steps") (eUn (fldG "Loan" "program") (eVar 2)))))) (sRaise "Busy") sNil)
 (sRet (eOp modG (eOp subG (eOp ixG (eUn (fldG "Vault" "cells") (eVar 0)) (eOp ixG (eUn (fldG "Loan" "places") (eVar 2)) (eC (.int 0)))) (eUn (fldG "Loan" "begun") (eVar 2))) (eUn (fldG "Vault" "modulus") (eVar 0)))))))
noncomputable def m_Vault_answer : List D → Hd → Option (Rs D) := mir N_Vault_answer.length P_Vault_answer.length g_Vault_answer
theorem w_Vault_answer {P : Program} {w : World} {K : PySem.W.Frag} {mg : Str → Option Value} {base : Heap} {f : Addr} {fd : FuncData} (F : FunD K "answer" "Vault.answer" (defArgs s_Vault_answer) (defBody s_Vault_answer) (defScope s_Vault_answer) [] [] f fd) (b_len : mg "len" = none) (F_Vault_found : Mth P w K mg base 3 "Vault" "found" 2 m_Vault_found) (F_Vault_blocked : Mth P w K mg base 1 "Vault" "blocked" 2 m_Vault_blocked) (x_Busy : XCl K mg "Busy") (cf_Loan : ClsK K mg "Loan" ["program", "places", "given", "begun", "done"]) (cf_Program : ClsK K mg "Program" ["modulus", "cells", "inputs", "steps"]) (cf_Vault : ClsK K mg "Vault" ["modulus", "cells", "loans"]) : FnOk P w K mg base (L2.CX P w) 4 f fd P_Vault_answer (spD K mg 2 m_Vault_answer) := by
  refine fn_mk (k := 3) (g := g_Vault_answer) F sc_Vault_answer fun cdv A outer s H E hr => ?_
  have nd := sc_Vault_answer.nd
  have tk : Takes (cxOf (L2.CX P w) P w K mg base N_Vault_answer "Vault.answer" (defScope s_Vault_answer) f cdv A outer s H E) (fun cls d _ H => E cls d H) := takes_of rfl rfl rfl rfl
  have po : PassesOwn (model P w) (cxOf (L2.CX P w) P w K mg base N_Vault_answer "Vault.answer" (defScope s_Vault_answer) f cdv A outer s H E).A (cxOf (L2.CX P w) P w K mg base N_Vault_answer "Vault.answer" (defScope s_Vault_answer) f cdv A outer s H E).env (cxOf (L2.CX P w) P w K mg base N_Vault_answer "Vault.answer" (defScope s_Vault_answer) f cdv A outer s H E).xe := passes_of rfl
  exact (dss_cons (ds_set 2 nd (de_meth (F_Vault_found.mono (by decide)) tk hr (de_var 0) (da_cons (de_var 1) da_nil)))
 (dss_cons (ds_if (dt_tru (de_meth (F_Vault_blocked.mono (by decide)) tk hr (de_var 0) (da_cons (de_var 1) da_nil))) (dss_one (ds_raise rfl tk x_Busy)) dss_nil)
 (dss_cons (ds_if (dt_cmp op_lt od_lt (de_fld cf_Loan (List.Mem.tail _ (List.Mem.tail _ (List.Mem.tail _ (List.Mem.tail _ (List.Mem.head _))))) (de_var 2)) (de_len (de_fld cf_Program (List.Mem.tail _ (List.Mem.tail _ (List.Mem.tail _ (List.Mem.head _)))) (de_fld cf_Loan (List.Mem.head _) (de_var 2))) b_len)) (dss_one (ds_raise rfl tk x_Busy)) dss_nil)
 (dss_one (ds_ret (de_op op_mod od_mod (de_op op_sub od_sub (de_ix (de_fld cf_Vault (List.Mem.tail _ (List.Mem.head _)) (de_var 0)) (de_ix (de_fld cf_Loan (List.Mem.tail _ (List.Mem.head _)) (de_var 2)) de_int)) (de_fld cf_Loan (List.Mem.tail _ (List.Mem.tail _ (List.Mem.tail _ (List.Mem.head _)))) (de_var 2))) (de_fld cf_Vault (List.Mem.head _) (de_var 0))))))))
theorem d_Vault_answer {P : Program} {w : World} {K : PySem.W.Frag} {mg : Str → Option Value} {base : Heap} {f : Addr} {fd : FuncData} (F : FunD K "answer" "Vault.answer" (defArgs s_Vault_answer) (defBody s_Vault_answer) (defScope s_Vault_answer) [] [] f fd) {C : Addr} (hC : mg "Vault" = some (.ref C)) (hcl : Cls K C) (hm : Meth K C "answer" f) (b_len : mg "len" = none) (F_Vault_found : Mth P w K mg base 3 "Vault" "found" 2 m_Vault_found) (F_Vault_blocked : Mth P w K mg base 1 "Vault" "blocked" 2 m_Vault_blocked) (x_Busy : XCl K mg "Busy") (cf_Loan : ClsK K mg "Loan" ["program", "places", "given", "begun", "done"]) (cf_Program : ClsK K mg "Program" ["modulus", "cells", "inputs", "steps"]) (cf_Vault : ClsK K mg "Vault" ["modulus", "cells", "loans"]) : Mth P w K mg base 4 "Vault" "answer" 2 m_Vault_answer :=
  ⟨fun ds M o e => mir_len e, C, f, fd, P_Vault_answer, hC, hcl, hm, (FunD.bindsN F fun _ _ _ _ _ _ us hl => match us, hl with | [_, _], _ => rfl), (w_Vault_answer F b_len F_Vault_found F_Vault_blocked x_Busy cf_Loan cf_Program cf_Vault)⟩

abbrev N_inverse_step : List Str := ["step", "modulus"]
abbrev P_inverse_step : List Str := ["step", "modulus"]
theorem sc_inverse_step : FnScope N_inverse_step P_inverse_step (defScope s_inverse_step) := ⟨rfl, rfl, rfl, by decide +kernel, rfl, by decide +kernel, by decide +kernel⟩
noncomputable def g_inverse_step : SF := (sSeq (sIf (tVal (eOp eqG (eOp ixG (eVar 0) (eC (.int 0))) (eC (.str "add")))) (sRet (eTup (aCons (eC (.str "add")) (aCons (eOp ixG (eVar 0) (eC (.int 1))) (aCons (eOp modG (eUn negG (eOp ixG (eVar 0) (eC (.int 2)))) (eVar 1)) (aCons (eOp ixG (eVar 0) (eC (.int 3))) aNil)))))) sNil)
 (sSeq (sIf (tVal (eOp eqG (eOp ixG (eVar 0) (eC (.int 0))) (eC (.str "scale")))) (sRet (eTup (aCons (eC (.str "scale")) (aCons (eOp ixG (eVar 0) (eC (.int 1))) (aCons (eCall m_inverse_of (aCons (eOp ixG (eVar 0) (eC (.int 2))) (aCons (eVar 1) aNil))) aNil))))) sNil)
 (sSeq (sIf (tVal (eOp eqG (eOp ixG (eVar 0) (eC (.int 0))) (eC (.str "table")))) (sRet (eOp addG (eTup (aCons (eC (.str "table")) (aCons (eOp ixG (eVar 0) (eC (.int 1))) (aCons (eOp subG (eVar 1) (eOp ixG (eVar 0) (eC (.int 2)))) aNil)))) (eSl (eVar 0) (oSome (eC (.int 3))) oNone))) sNil)
 (sRet (eVar 0)))))
noncomputable def m_inverse_step : List D → Hd → Option (Rs D) := mir N_inverse_step.length P_inverse_step.length g_inverse_step
theorem w_inverse_step {P : Program} {w : World} {K : PySem.W.Frag} {mg : Str → Option Value} {base : Heap} {f : Addr} {fd : FuncData} (F : FunD K "inverse_step" "inverse_step" (defArgs s_inverse_step) (defBody s_inverse_step) (defScope s_inverse_step) [] [] f fd) (F_inverse_of : Dfn P w K mg base 1 "inverse_of" 2 m_inverse_of) : FnOk P w K mg base (L2.CX P w) 2 f fd P_inverse_step (spD K mg 2 m_inverse_step) := by
  refine fn_mk (k := 1) (g := g_inverse_step) F sc_inverse_step fun cdv A outer s H E hr => ?_
  have nd := sc_inverse_step.nd
  have tk : Takes (cxOf (L2.CX P w) P w K mg base N_inverse_step "inverse_step" (defScope s_inverse_step) f cdv A outer s H E) (fun cls d _ H => E cls d H) := takes_of rfl rfl rfl rfl
  have po : PassesOwn (model P w) (cxOf (L2.CX P w) P w K mg base N_inverse_step "inverse_step" (defScope s_inverse_step) f cdv A outer s H E).A (cxOf (L2.CX P w) P w K mg base N_inverse_step "inverse_step" (defScope s_inverse_step) f cdv A outer s H E).env (cxOf (L2.CX P w) P w K mg base N_inverse_step "inverse_step" (defScope s_inverse_step) f cdv A outer s H E).xe := passes_of rfl
  exact (dss_cons (ds_if (dt_cmp (op_eqP hr.units) od_eq (de_ix (de_var 0) de_int) de_str) (dss_one (ds_ret (de_tup (da_cons de_str (da_cons (de_ix (de_var 0) de_int) (da_cons (de_op op_mod od_mod (de_un un_neg ou_neg (de_ix (de_var 0) de_int)) (de_var 1)) (da_cons (de_ix (de_var 0) de_int) da_nil))))))) dss_nil)
 (dss_cons (ds_if (dt_cmp (op_eqP hr.units) od_eq (de_ix (de_var 0) de_int) de_str) (dss_one (ds_ret (de_tup (da_cons de_str (da_cons (de_ix (de_var 0) de_int) (da_cons (de_call (F_inverse_of.mono (by decide)) tk hr (da_cons (de_ix (de_var 0) de_int) (da_cons (de_var 1) da_nil))) da_nil)))))) dss_nil)
 (dss_cons (ds_if (dt_cmp (op_eqP hr.units) od_eq (de_ix (de_var 0) de_int) de_str) (dss_one (ds_ret (de_op op_addD od_add (de_tup (da_cons de_str (da_cons (de_ix (de_var 0) de_int) (da_cons (de_op op_sub od_sub (de_var 1) (de_ix (de_var 0) de_int)) da_nil)))) (de_slice (de_var 0) (do_some de_int) do_none)))) dss_nil)
 (dss_one (ds_ret (de_var 0))))))
theorem d_inverse_step {P : Program} {w : World} {K : PySem.W.Frag} {mg : Str → Option Value} {base : Heap} {f : Addr} {fd : FuncData} (F : FunD K "inverse_step" "inverse_step" (defArgs s_inverse_step) (defBody s_inverse_step) (defScope s_inverse_step) [] [] f fd) (hmg : mg "inverse_step" = some (.ref f)) (F_inverse_of : Dfn P w K mg base 1 "inverse_of" 2 m_inverse_of) : Dfn P w K mg base 2 "inverse_step" 2 m_inverse_step :=
  dfn_of F hmg (FunD.bindsN F fun _ _ _ _ _ _ us hl => match us, hl with | [_, _], _ => rfl) (w_inverse_step F F_inverse_of)

abbrev N_Vault_recall : List Str := ["self", "ticket", "loan", "steps", "step"]
abbrev P_Vault_recall : List Str := ["self", "ticket"]
theorem sc_Vault_recall : FnScope N_Vault_recall P_Vault_recall (defScope s_Vault_recall) := ⟨rfl, rfl, rfl, by decide +kernel, rfl, by decide +kernel, by decide +kernel⟩
noncomputable def g_Vault_recall : SF := (sSeq (sAsg 2 (eMeth "Vault" "found" m_Vault_found (eVar 0) (aCons (eVar 1) aNil)))
 (sSeq (sIf (tTru (eMeth "Vault" "blocked" m_Vault_blocked (eVar 0) (aCons (eVar 1) aNil))) (sRaise "Busy") sNil)
 (sSeq (sAsg 3 (eSl (eUn (fldG "Program" "steps") (eUn (fldG "Loan" "program") (eVar 2))) oNone (oSome (eUn (fldG "Loan" "done") (eVar 2)))))
 (sSeq (sFor (seqI (eUn revG (eVar 3))) (.nm 4) (sDrop (eMeth "Vault" "perform" m_Vault_perform (eVar 0) (aCons (eVar 2) (aCons (eCall m_inverse_step (aCons (eVar 4) (aCons (eUn (fldG "Vault" "modulus") (eVar 0)) aNil))) aNil)))))
 (sSeq (sSetI (eC .non) (eUn (fldG "Vault" "loans") (eVar 0)) (eVar 1))
 (sRet (eUn lenD (eVar 3))))))))
noncomputable def m_Vault_recall : List D → Hd → Option (Rs D) := mir N_Vault_recall.length P_Vault_recall.length g_Vault_recall
theorem w_Vault_recall {P : Program} {w : World} {K : PySem.W.Frag} {mg : Str → Option Value} {base : Heap} {f : Addr} {fd : FuncData} (F : FunD K "recall" "Vault.recall" (defArgs s_Vault_recall) (defBody s_Vault_recall) (defScope s_Vault_recall) [] [] f fd) (b_len : mg "len" = none) (F_Vault_found : Mth P w K mg base 3 "Vault" "found" 2 m_Vault_found) (F_Vault_blocked : Mth P w K mg base 1 "Vault" "blocked" 2 m_Vault_blocked) (F_Vault_perform : Mth P w K mg base 5 "Vault" "perform" 3 m_Vault_perform) (F_inverse_step : Dfn P w K mg base 2 "inverse_step" 2 m_inverse_step) (x_Busy : XCl K mg "Busy") (cf_Loan : ClsK K mg "Loan" ["program", "places", "given", "begun", "done"]) (cf_Program : ClsK K mg "Program" ["modulus", "cells", "inputs", "steps"]) (cf_Vault : ClsK K mg "Vault" ["modulus", "cells", "loans"]) : FnOk P w K mg base (L2.CX P w) 6 f fd P_Vault_recall (spD K mg 2 m_Vault_recall) := by
  refine fn_mk (k := 5) (g := g_Vault_recall) F sc_Vault_recall fun cdv A outer s H E hr => ?_
  have nd := sc_Vault_recall.nd
  have tk : Takes (cxOf (L2.CX P w) P w K mg base N_Vault_recall "Vault.recall" (defScope s_Vault_recall) f cdv A outer s H E) (fun cls d _ H => E cls d H) := takes_of rfl rfl rfl rfl
  have po : PassesOwn (model P w) (cxOf (L2.CX P w) P w K mg base N_Vault_recall "Vault.recall" (defScope s_Vault_recall) f cdv A outer s H E).A (cxOf (L2.CX P w) P w K mg base N_Vault_recall "Vault.recall" (defScope s_Vault_recall) f cdv A outer s H E).env (cxOf (L2.CX P w) P w K mg base N_Vault_recall "Vault.recall" (defScope s_Vault_recall) f cdv A outer s H E).xe := passes_of rfl
  exact (dss_cons (ds_set 2 nd (de_meth (F_Vault_found.mono (by decide)) tk hr (de_var 0) (da_cons (de_var 1) da_nil)))
 (dss_cons (ds_if (dt_tru (de_meth (F_Vault_blocked.mono (by decide)) tk hr (de_var 0) (da_cons (de_var 1) da_nil))) (dss_one (ds_raise rfl tk x_Busy)) dss_nil)
 (dss_cons (ds_set 3 nd (de_slice (de_fld cf_Program (List.Mem.tail _ (List.Mem.tail _ (List.Mem.tail _ (List.Mem.head _)))) (de_fld cf_Loan (List.Mem.head _) (de_var 2))) do_none (do_some (de_fld cf_Loan (List.Mem.tail _ (List.Mem.tail _ (List.Mem.tail _ (List.Mem.tail _ (List.Mem.head _))))) (de_var 2)))))
 (dss_cons (ds_for po rfl (di_seq (de_rev (de_var 3))) (dg_nm 4 nd) (dss_one (ds_drop (de_meth (F_Vault_perform.mono (by decide)) tk hr (de_var 0) (da_cons (de_var 2) (da_cons (de_call (F_inverse_step.mono (by decide)) tk hr (da_cons (de_var 4) (da_cons (de_fld cf_Vault (List.Mem.head _) (de_var 0)) da_nil))) da_nil))))))
 (dss_cons (ds_setI de_non (de_fld cf_Vault (List.Mem.tail _ (List.Mem.tail _ (List.Mem.head _))) (de_var 0)) (de_var 1))
 (dss_one (ds_ret (de_len (de_var 3) b_len))))))))
theorem d_Vault_recall {P : Program} {w : World} {K : PySem.W.Frag} {mg : Str → Option Value} {base : Heap} {f : Addr} {fd : FuncData} (F : FunD K "recall" "Vault.recall" (defArgs s_Vault_recall) (defBody s_Vault_recall) (defScope s_Vault_recall) [] [] f fd) {C : Addr} (hC : mg "Vault" = some (.ref C)) (hcl : Cls K C) (hm : Meth K C "recall" f) (b_len : mg "len" = none) (F_Vault_found : Mth P w K mg base 3 "Vault" "found" 2 m_Vault_found) (F_Vault_blocked : Mth P w K mg base 1 "Vault" "blocked" 2 m_Vault_blocked) (F_Vault_perform : Mth P w K mg base 5 "Vault" "perform" 3 m_Vault_perform) (F_inverse_step : Dfn P w K mg base 2 "inverse_step" 2 m_inverse_step) (x_Busy : XCl K mg "Busy") (cf_Loan : ClsK K mg "Loan" ["program", "places", "given", "begun", "done"]) (cf_Program : ClsK K mg "Program" ["modulus", "cells", "inputs", "steps"]) (cf_Vault : ClsK K mg "Vault" ["modulus", "cells", "loans"]) : Mth P w K mg base 6 "Vault" "recall" 2 m_Vault_recall :=
  ⟨fun ds M o e => mir_len e, C, f, fd, P_Vault_recall, hC, hcl, hm, (FunD.bindsN F fun _ _ _ _ _ _ us hl => match us, hl with | [_, _], _ => rfl), (w_Vault_recall F b_len F_Vault_found F_Vault_blocked F_Vault_perform F_inverse_step x_Busy cf_Loan cf_Program cf_Vault)⟩

abbrev N__law_called : List Str := ["_law_vault", "_law_pick", "_law_ticket", "_law_most"]
abbrev P__law_called : List Str := ["_law_vault", "_law_pick", "_law_ticket", "_law_most"]
theorem sc__law_called : FnScope N__law_called P__law_called (defScope s__law_called) := ⟨rfl, rfl, rfl, by decide +kernel, rfl, by decide +kernel, by decide +kernel⟩
noncomputable def g__law_called : SF := (sSeq (sTry (tblOf [("BrimfulError", false), ("BadStep", false), ("BadMemory", false), ("Busy", true), ("BadTicket", false)]) (sSeq (sIf (tVal (eOp ltG (eVar 1) (eC (.int 4)))) (sRet (eMeth "Vault" "advance" m_Vault_advance (eVar 0) (aCons (eVar 2) (aCons (eVar 3) aNil)))) sNil)
 (sIf (tVal (eOp eqG (eVar 1) (eC (.int 4)))) (sDrop (eMeth "Vault" "answer" m_Vault_answer (eVar 0) (aCons (eVar 2) aNil))) (sRet (eUn negG (eMeth "Vault" "recall" m_Vault_recall (eVar 0) (aCons (eVar 2) aNil)))))) (fun dn => (sRet (eC (.int 0)))))
 (sRet (eC (.int 0))))
noncomputable def m__law_called : List D → Hd → Option (Rs D) := mir N__law_called.length P__law_called.length g__law_called
theorem w__law_called {P : Program} {w : World} {K : PySem.W.Frag} {mg : Str → Option Value} {base : Heap} {f : Addr} {fd : FuncData} (F : FunD K "_law_called" "_law_called" (defArgs s__law_called) (defBody s__law_called) (defScope s__law_called) [] [] f fd) (F_Vault_advance : Mth P w K mg base 6 "Vault" "advance" 3 m_Vault_advance) (F_Vault_answer : Mth P w K mg base 4 "Vault" "answer" 2 m_Vault_answer) (F_Vault_recall : Mth P w K mg base 6 "Vault" "recall" 2 m_Vault_recall) (h_Busy : Hnd K mg "Busy" (tblOf [("BrimfulError", false), ("BadStep", false), ("BadMemory", false), ("Busy", true), ("BadTicket", false)])) : FnOk P w K mg base (L2.CX P w) 7 f fd P__law_called (spD K mg 4 m__law_called) := by
  refine fn_mk (k := 6) (g := g__law_called) F sc__law_called fun cdv A outer s H E hr => ?_
  have nd := sc__law_called.nd
  have tk : Takes (cxOf (L2.CX P w) P w K mg base N__law_called "_law_called" (defScope s__law_called) f cdv A outer s H E) (fun cls d _ H => E cls d H) := takes_of rfl rfl rfl rfl
  have po : PassesOwn (model P w) (cxOf (L2.CX P w) P w K mg base N__law_called "_law_called" (defScope s__law_called) f cdv A outer s H E).A (cxOf (L2.CX P w) P w K mg base N__law_called "_law_called" (defScope s__law_called) f cdv A outer s H E).env (cxOf (L2.CX P w) P w K mg base N__law_called "_law_called" (defScope s__law_called) f cdv A outer s H E).xe := passes_of rfl
  exact (dss_cons (ds_tryH tk h_Busy (fun W pn xe tk po => (dss_cons (ds_if (dt_cmp op_lt od_lt (de_var 1) de_int) (dss_one (ds_ret (de_meth (F_Vault_advance.mono (by decide)) tk hr (de_var 0) (da_cons (de_var 2) (da_cons (de_var 3) da_nil))))) dss_nil)
 (dss_one (ds_if (dt_cmp (op_eqP hr.units) od_eq (de_var 1) de_int) (dss_one (ds_drop (de_meth (F_Vault_answer.mono (by decide)) tk hr (de_var 0) (da_cons (de_var 2) da_nil)))) (dss_one (ds_ret (de_un un_neg ou_neg (de_meth (F_Vault_recall.mono (by decide)) tk hr (de_var 0) (da_cons (de_var 2) da_nil))))))))) (fun a oe dn D pn hdn hz hv => (dss_one (ds_ret de_int))))
 (dss_one (ds_ret de_int)))
theorem d__law_called {P : Program} {w : World} {K : PySem.W.Frag} {mg : Str → Option Value} {base : Heap} {f : Addr} {fd : FuncData} (F : FunD K "_law_called" "_law_called" (defArgs s__law_called) (defBody s__law_called) (defScope s__law_called) [] [] f fd) (hmg : mg "_law_called" = some (.ref f)) (F_Vault_advance : Mth P w K mg base 6 "Vault" "advance" 3 m_Vault_advance) (F_Vault_answer : Mth P w K mg base 4 "Vault" "answer" 2 m_Vault_answer) (F_Vault_recall : Mth P w K mg base 6 "Vault" "recall" 2 m_Vault_recall) (h_Busy : Hnd K mg "Busy" (tblOf [("BrimfulError", false), ("BadStep", false), ("BadMemory", false), ("Busy", true), ("BadTicket", false)])) : Dfn P w K mg base 7 "_law_called" 4 m__law_called :=
  dfn_of F hmg (FunD.bindsN F fun _ _ _ _ _ _ us hl => match us, hl with | [_, _, _, _], _ => rfl) (w__law_called F F_Vault_advance F_Vault_answer F_Vault_recall h_Busy)

abbrev N_is_factor : List Str := ["factor", "target", "cells", "inputs"]
abbrev P_is_factor : List Str := ["factor", "target", "cells", "inputs"]
theorem sc_is_factor : FnScope N_is_factor P_is_factor (defScope s_is_factor) := ⟨rfl, rfl, rfl, by decide +kernel, rfl, by decide +kernel, by decide +kernel⟩
noncomputable def g_is_factor : SF := (sSeq (sIf (tOr (tNot (tTru (eUn (isiG .tup) (eVar 0)))) (tVal (eOp neG (eUn lenD (eVar 0)) (eC (.int 2))))) (sRet (eC (.bl false))) sNil)
 (sSeq (sIf (tVal (eOp eqG (eOp ixG (eVar 0) (eC (.int 0))) (eC (.str "cell")))) (sRet (eAnd (eCall m_is_number (aCons (eOp ixG (eVar 0) (eC (.int 1))) (aCons (eVar 2) aNil))) (eOp neG (eOp ixG (eVar 0) (eC (.int 1))) (eVar 1)))) sNil)
 (sRet (eAnd (eOp eqG (eOp ixG (eVar 0) (eC (.int 0))) (eC (.str "input"))) (eCall m_is_number (aCons (eOp ixG (eVar 0) (eC (.int 1))) (aCons (eVar 3) aNil)))))))
noncomputable def m_is_factor : List D → Hd → Option (Rs D) := mir N_is_factor.length P_is_factor.length g_is_factor
theorem w_is_factor {P : Program} {w : World} {K : PySem.W.Frag} {mg : Str → Option Value} {base : Heap} {f : Addr} {fd : FuncData} (F : FunD K "is_factor" "is_factor" (defArgs s_is_factor) (defBody s_is_factor) (defScope s_is_factor) [] [] f fd) (b_isinstance : mg "isinstance" = none) (b_tuple : mg "tuple" = none) (b_len : mg "len" = none) (F_is_number : Dfn P w K mg base 2 "is_number" 2 m_is_number) : FnOk P w K mg base (L2.CX P w) 3 f fd P_is_factor (spD K mg 4 m_is_factor) := by
  refine fn_mk (k := 2) (g := g_is_factor) F sc_is_factor fun cdv A outer s H E hr => ?_
  have nd := sc_is_factor.nd
  have tk : Takes (cxOf (L2.CX P w) P w K mg base N_is_factor "is_factor" (defScope s_is_factor) f cdv A outer s H E) (fun cls d _ H => E cls d H) := takes_of rfl rfl rfl rfl
  have po : PassesOwn (model P w) (cxOf (L2.CX P w) P w K mg base N_is_factor "is_factor" (defScope s_is_factor) f cdv A outer s H E).A (cxOf (L2.CX P w) P w K mg base N_is_factor "is_factor" (defScope s_is_factor) f cdv A outer s H E).env (cxOf (L2.CX P w) P w K mg base N_is_factor "is_factor" (defScope s_is_factor) f cdv A outer s H E).xe := passes_of rfl
  exact (dss_cons (ds_if (dt_w (dw_or (dt_not (dt_tru (de_isi .tup (de_var 0) b_isinstance b_tuple PyProof.Rows.boot_tuple))) (dw_or1 (dt_cmp (op_neP hr.units) od_ne (de_len (de_var 0) b_len) de_int)))) (dss_one (ds_ret de_bl)) dss_nil)
 (dss_cons (ds_if (dt_cmp (op_eqP hr.units) od_eq (de_ix (de_var 0) de_int) de_str) (dss_one (ds_ret (de_and (de_call (F_is_number.mono (by decide)) tk hr (da_cons (de_ix (de_var 0) de_int) (da_cons (de_var 2) da_nil))) (de_andE (de_cmp (op_neP hr.units) od_ne (de_ix (de_var 0) de_int) (de_var 1)))))) dss_nil)
 (dss_one (ds_ret (de_and (de_cmp (op_eqP hr.units) od_eq (de_ix (de_var 0) de_int) de_str) (de_andE (de_call (F_is_number.mono (by decide)) tk hr (da_cons (de_ix (de_var 0) de_int) (da_cons (de_var 3) da_nil)))))))))
theorem d_is_factor {P : Program} {w : World} {K : PySem.W.Frag} {mg : Str → Option Value} {base : Heap} {f : Addr} {fd : FuncData} (F : FunD K "is_factor" "is_factor" (defArgs s_is_factor) (defBody s_is_factor) (defScope s_is_factor) [] [] f fd) (hmg : mg "is_factor" = some (.ref f)) (b_isinstance : mg "isinstance" = none) (b_tuple : mg "tuple" = none) (b_len : mg "len" = none) (F_is_number : Dfn P w K mg base 2 "is_number" 2 m_is_number) : Dfn P w K mg base 3 "is_factor" 4 m_is_factor :=
  dfn_of F hmg (FunD.bindsN F fun _ _ _ _ _ _ us hl => match us, hl with | [_, _, _, _], _ => rfl) (w_is_factor F b_isinstance b_tuple b_len F_is_number)

abbrev N_is_add : List Str := ["step", "modulus", "cells", "inputs", "_", "target", "coefficient", "factors", "factor"]
abbrev P_is_add : List Str := ["step", "modulus", "cells", "inputs"]
theorem sc_is_add : FnScope N_is_add P_is_add (defScope s_is_add) := ⟨rfl, rfl, rfl, by decide +kernel, rfl, by decide +kernel, by decide +kernel⟩
noncomputable def g_is_add : SF := (sSeq (sAsgT [4, 5, 6, 7] (eVar 0))
 (sSeq (sIf (tOr (tNot (tTru (eCall m_is_number (aCons (eVar 5) (aCons (eVar 2) aNil))))) (tNot (tTru (eCall m_is_number (aCons (eVar 6) (aCons (eVar 1) aNil)))))) (sRet (eC (.bl false))) sNil)
 (sSeq (sIf (tOr (tNot (tTru (eUn (isiG .tup) (eVar 7)))) (tVal (eOp gtG (eUn lenD (eVar 7)) (eC (.int 3))))) (sRet (eC (.bl false))) sNil)
 (sSeq (sFor (seqI (eVar 7)) (.nm 8) (sIf (tNot (tTru (eCall m_is_factor (aCons (eVar 8) (aCons (eVar 5) (aCons (eVar 2) (aCons (eVar 3) aNil))))))) (sRet (eC (.bl false))) sNil))
 (sRet (eC (.bl true)))))))
noncomputable def m_is_add : List D → Hd → Option (Rs D) := mir N_is_add.length P_is_add.length g_is_add
theorem w_is_add {P : Program} {w : World} {K : PySem.W.Frag} {mg : Str → Option Value} {base : Heap} {f : Addr} {fd : FuncData} (F : FunD K "is_add" "is_add" (defArgs s_is_add) (defBody s_is_add) (defScope s_is_add) [] [] f fd) (b_isinstance : mg "isinstance" = none) (b_tuple : mg "tuple" = none) (b_len : mg "len" = none) (c_FACTORS : ∃ u, mg "FACTORS" = some u ∧ RelV (.int  3) u) (F_is_number : Dfn P w K mg base 2 "is_number" 2 m_is_number) (F_is_factor : Dfn P w K mg base 3 "is_factor" 4 m_is_factor) : FnOk P w K mg base (L2.CX P w) 4 f fd P_is_add (spD K mg 4 m_is_add) := by
  refine fn_mk (k := 3) (g := g_is_add) F sc_is_add fun cdv A outer s H E hr => ?_
  have nd := sc_is_add.nd
  have tk : Takes (cxOf (L2.CX P w) P w K mg base N_is_add "is_add" (defScope s_is_add) f cdv A outer s H E) (fun cls d _ H => E cls d H) := takes_of rfl rfl rfl rfl
  have po : PassesOwn (model P w) (cxOf (L2.CX P w) P w K mg base N_is_add "is_add" (defScope s_is_add) f cdv A outer s H E).A (cxOf (L2.CX P w) P w K mg base N_is_add "is_add" (defScope s_is_add) f cdv A outer s H E).env (cxOf (L2.CX P w) P w K mg base N_is_add "is_add" (defScope s_is_add) f cdv A outer s H E).xe := passes_of rfl
  exact (dss_cons (ds_asgT (de_var 0) (dg_tp rfl (dgs_cons 4 nd (dgs_cons 5 nd (dgs_cons 6 nd (dgs_cons 7 nd dgs_nil))))))
 (dss_cons (ds_if (dt_w (dw_or (dt_not (dt_tru (de_call (F_is_number.mono (by decide)) tk hr (da_cons (de_var 5) (da_cons (de_var 2) da_nil))))) (dw_or1 (dt_not (dt_tru (de_call (F_is_number.mono (by decide)) tk hr (da_cons (de_var 6) (da_cons (de_var 1) da_nil)))))))) (dss_one (ds_ret de_bl)) dss_nil)
 (dss_cons (ds_if (dt_w (dw_or (dt_not (dt_tru (de_isi .tup (de_var 7) b_isinstance b_tuple PyProof.Rows.boot_tuple))) (dw_or1 (dt_cmp op_gt od_gt (de_len (de_var 7) b_len) (de_gi c_FACTORS))))) (dss_one (ds_ret de_bl)) dss_nil)
 (dss_cons (ds_for po rfl (di_seq (de_var 7)) (dg_nm 8 nd) (dss_one (ds_if (dt_not (dt_tru (de_call (F_is_factor.mono (by decide)) tk hr (da_cons (de_var 8) (da_cons (de_var 5) (da_cons (de_var 2) (da_cons (de_var 3) da_nil))))))) (dss_one (ds_ret de_bl)) dss_nil)))
 (dss_one (ds_ret de_bl))))))
theorem d_is_add {P : Program} {w : World} {K : PySem.W.Frag} {mg : Str → Option Value} {base : Heap} {f : Addr} {fd : FuncData} (F : FunD K "is_add" "is_add" (defArgs s_is_add) (defBody s_is_add) (defScope s_is_add) [] [] f fd) (hmg : mg "is_add" = some (.ref f)) (b_isinstance : mg "isinstance" = none) (b_tuple : mg "tuple" = none) (b_len : mg "len" = none) (c_FACTORS : ∃ u, mg "FACTORS" = some u ∧ RelV (.int  3) u) (F_is_number : Dfn P w K mg base 2 "is_number" 2 m_is_number) (F_is_factor : Dfn P w K mg base 3 "is_factor" 4 m_is_factor) : Dfn P w K mg base 4 "is_add" 4 m_is_add :=
  dfn_of F hmg (FunD.bindsN F fun _ _ _ _ _ _ us hl => match us, hl with | [_, _, _, _], _ => rfl) (w_is_add F b_isinstance b_tuple b_len c_FACTORS F_is_number F_is_factor)

abbrev N_is_table : List Str := ["table", "modulus", "row", "entry"]
abbrev P_is_table : List Str := ["table", "modulus"]
theorem sc_is_table : FnScope N_is_table P_is_table (defScope s_is_table) := ⟨rfl, rfl, rfl, by decide +kernel, rfl, by decide +kernel, by decide +kernel⟩
noncomputable def g_is_table : SF := (sSeq (sIf (tOr (tNot (tTru (eUn (isiG .tup) (eVar 0)))) (tNot (tVal (eChain leG leG (eC (.int 1)) (eUn lenD (eVar 0)) (eVar 1))))) (sRet (eC (.bl false))) sNil)
 (sSeq (sFor (seqI (eVar 0)) (.nm 2) (sSeq (sIf (tOr (tNot (tTru (eUn (isiG .tup) (eVar 2)))) (tVal (eOp neG (eUn lenD (eVar 2)) (eUn lenD (eVar 0))))) (sRet (eC (.bl false))) sNil)
 (sFor (seqI (eVar 2)) (.nm 3) (sIf (tNot (tTru (eCall m_is_number (aCons (eVar 3) (aCons (eVar 1) aNil))))) (sRet (eC (.bl false))) sNil))))
 (sRet (eC (.bl true)))))
noncomputable def m_is_table : List D → Hd → Option (Rs D) := mir N_is_table.length P_is_table.length g_is_table
theorem w_is_table {P : Program} {w : World} {K : PySem.W.Frag} {mg : Str → Option Value} {base : Heap} {f : Addr} {fd : FuncData} (F : FunD K "is_table" "is_table" (defArgs s_is_table) (defBody s_is_table) (defScope s_is_table) [] [] f fd) (b_isinstance : mg "isinstance" = none) (b_tuple : mg "tuple" = none) (b_len : mg "len" = none) (F_is_number : Dfn P w K mg base 2 "is_number" 2 m_is_number) : FnOk P w K mg base (L2.CX P w) 3 f fd P_is_table (spD K mg 2 m_is_table) := by
  refine fn_mk (k := 2) (g := g_is_table) F sc_is_table fun cdv A outer s H E hr => ?_
  have nd := sc_is_table.nd
  have tk : Takes (cxOf (L2.CX P w) P w K mg base N_is_table "is_table" (defScope s_is_table) f cdv A outer s H E) (fun cls d _ H => E cls d H) := takes_of rfl rfl rfl rfl
  have po : PassesOwn (model P w) (cxOf (L2.CX P w) P w K mg base N_is_table "is_table" (defScope s_is_table) f cdv A outer s H E).A (cxOf (L2.CX P w) P w K mg base N_is_table "is_table" (defScope s_is_table) f cdv A outer s H E).env (cxOf (L2.CX P w) P w K mg base N_is_table "is_table" (defScope s_is_table) f cdv A outer s H E).xe := passes_of rfl
  exact (dss_cons (ds_if (dt_w (dw_or (dt_not (dt_tru (de_isi .tup (de_var 0) b_isinstance b_tuple PyProof.Rows.boot_tuple))) (dw_or1 (dt_not (dt_chain op_le od_le op_le od_le de_int (de_len (de_var 0) b_len) (de_var 1)))))) (dss_one (ds_ret de_bl)) dss_nil)
 (dss_cons (ds_for po rfl (di_seq (de_var 0)) (dg_nm 2 nd) (dss_cons (ds_if (dt_w (dw_or (dt_not (dt_tru (de_isi .tup (de_var 2) b_isinstance b_tuple PyProof.Rows.boot_tuple))) (dw_or1 (dt_cmp (op_neP hr.units) od_ne (de_len (de_var 2) b_len) (de_len (de_var 0) b_len))))) (dss_one (ds_ret de_bl)) dss_nil)
 (dss_one (ds_for po rfl (di_seq (de_var 2)) (dg_nm 3 nd) (dss_one (ds_if (dt_not (dt_tru (de_call (F_is_number.mono (by decide)) tk hr (da_cons (de_var 3) (da_cons (de_var 1) da_nil))))) (dss_one (ds_ret de_bl)) dss_nil))))))
 (dss_one (ds_ret de_bl))))
theorem d_is_table {P : Program} {w : World} {K : PySem.W.Frag} {mg : Str → Option Value} {base : Heap} {f : Addr} {fd : FuncData} (F : FunD K "is_table" "is_table" (defArgs s_is_table) (defBody s_is_table) (defScope s_is_table) [] [] f fd) (hmg : mg "is_table" = some (.ref f)) (b_isinstance : mg "isinstance" = none) (b_tuple : mg "tuple" = none) (b_len : mg "len" = none) (F_is_number : Dfn P w K mg base 2 "is_number" 2 m_is_number) : Dfn P w K mg base 3 "is_table" 2 m_is_table :=
  dfn_of F hmg (FunD.bindsN F fun _ _ _ _ _ _ us hl => match us, hl with | [_, _], _ => rfl) (w_is_table F b_isinstance b_tuple b_len F_is_number)

abbrev N_is_look : List Str := ["step", "modulus", "cells", "_", "target", "sign", "table", "a", "b", "cell"]
abbrev P_is_look : List Str := ["step", "modulus", "cells"]
theorem sc_is_look : FnScope N_is_look P_is_look (defScope s_is_look) := ⟨rfl, rfl, rfl, by decide +kernel, rfl, by decide +kernel, by decide +kernel⟩
noncomputable def g_is_look : SF := (sSeq (sAsgT [3, 4, 5, 6, 7, 8] (eVar 0))
 (sSeq (sFor (seqI (eTup (aCons (eVar 4) (aCons (eVar 7) (aCons (eVar 8) aNil))))) (.nm 9) (sIf (tNot (tTru (eCall m_is_number (aCons (eVar 9) (aCons (eVar 2) aNil))))) (sRet (eC (.bl false))) sNil))
 (sSeq (sIf (tOr (tVal (eOp eqG (eVar 4) (eVar 7))) (tOr (tVal (eOp eqG (eVar 4) (eVar 8))) (tOr (tVal (eOp eqG (eVar 7) (eVar 8))) (tNot (tTru (eCall m_is_integer (aCons (eVar 5) aNil))))))) (sRet (eC (.bl false))) sNil)
 (sSeq (sIf (tAnd (tVal (eOp neG (eVar 5) (eC (.int 1)))) (tVal (eOp neG (eVar 5) (eOp subG (eVar 1) (eC (.int 1)))))) (sRet (eC (.bl false))) sNil)
 (sRet (eCall m_is_table (aCons (eVar 6) (aCons (eVar 1) aNil))))))))
noncomputable def m_is_look : List D → Hd → Option (Rs D) := mir N_is_look.length P_is_look.length g_is_look
theorem w_is_look {P : Program} {w : World} {K : PySem.W.Frag} {mg : Str → Option Value} {base : Heap} {f : Addr} {fd : FuncData} (F : FunD K "is_look" "is_look" (defArgs s_is_look) (defBody s_is_look) (defScope s_is_look) [] [] f fd) (F_is_number : Dfn P w K mg base 2 "is_number" 2 m_is_number) (F_is_integer : Dfn P w K mg base 1 "is_integer" 1 m_is_integer) (F_is_table : Dfn P w K mg base 3 "is_table" 2 m_is_table) : FnOk P w K mg base (L2.CX P w) 4 f fd P_is_look (spD K mg 3 m_is_look) := by
  refine fn_mk (k := 3) (g := g_is_look) F sc_is_look fun cdv A outer s H E hr => ?_
  have nd := sc_is_look.nd
  have tk : Takes (cxOf (L2.CX P w) P w K mg base N_is_look "is_look" (defScope s_is_look) f cdv A outer s H E) (fun cls d _ H => E cls d H) := takes_of rfl rfl rfl rfl
  have po : PassesOwn (model P w) (cxOf (L2.CX P w) P w K mg base N_is_look "is_look" (defScope s_is_look) f cdv A outer s H E).A (cxOf (L2.CX P w) P w K mg base N_is_look "is_look" (defScope s_is_look) f cdv A outer s H E).env (cxOf (L2.CX P w) P w K mg base N_is_look "is_look" (defScope s_is_look) f cdv A outer s H E).xe := passes_of rfl
  exact (dss_cons (ds_asgT (de_var 0) (dg_tp rfl (dgs_cons 3 nd (dgs_cons 4 nd (dgs_cons 5 nd (dgs_cons 6 nd (dgs_cons 7 nd (dgs_cons 8 nd dgs_nil))))))))
 (dss_cons (ds_for po rfl (di_seq (de_tup (da_cons (de_var 4) (da_cons (de_var 7) (da_cons (de_var 8) da_nil))))) (dg_nm 9 nd) (dss_one (ds_if (dt_not (dt_tru (de_call (F_is_number.mono (by decide)) tk hr (da_cons (de_var 9) (da_cons (de_var 2) da_nil))))) (dss_one (ds_ret de_bl)) dss_nil)))
 (dss_cons (ds_if (dt_w (dw_or (dt_cmp (op_eqP hr.units) od_eq (de_var 4) (de_var 7)) (dw_or (dt_cmp (op_eqP hr.units) od_eq (de_var 4) (de_var 8)) (dw_or (dt_cmp (op_eqP hr.units) od_eq (de_var 7) (de_var 8)) (dw_or1 (dt_not (dt_tru (de_call (F_is_integer.mono (by decide)) tk hr (da_cons (de_var 5) da_nil))))))))) (dss_one (ds_ret de_bl)) dss_nil)
 (dss_cons (ds_if (dt_w (dw_and (dt_cmp (op_neP hr.units) od_ne (de_var 5) de_int) (dw_and1 (dt_cmp (op_neP hr.units) od_ne (de_var 5) (de_op op_sub od_sub (de_var 1) de_int))))) (dss_one (ds_ret de_bl)) dss_nil)
 (dss_one (ds_ret (de_call (F_is_table.mono (by decide)) tk hr (da_cons (de_var 6) (da_cons (de_var 1) da_nil)))))))))
theorem d_is_look {P : Program} {w : World} {K : PySem.W.Frag} {mg : Str → Option Value} {base : Heap} {f : Addr} {fd : FuncData} (F : FunD K "is_look" "is_look" (defArgs s_is_look) (defBody s_is_look) (defScope s_is_look) [] [] f fd) (hmg : mg "is_look" = some (.ref f)) (F_is_number : Dfn P w K mg base 2 "is_number" 2 m_is_number) (F_is_integer : Dfn P w K mg base 1 "is_integer" 1 m_is_integer) (F_is_table : Dfn P w K mg base 3 "is_table" 2 m_is_table) : Dfn P w K mg base 4 "is_look" 3 m_is_look :=
  dfn_of F hmg (FunD.bindsN F fun _ _ _ _ _ _ us hl => match us, hl with | [_, _, _], _ => rfl) (w_is_look F F_is_number F_is_integer F_is_table)

abbrev N_is_step : List Str := ["step", "modulus", "cells", "inputs"]
abbrev P_is_step : List Str := ["step", "modulus", "cells", "inputs"]
theorem sc_is_step : FnScope N_is_step P_is_step (defScope s_is_step) := ⟨rfl, rfl, rfl, by decide +kernel, rfl, by decide +kernel, by decide +kernel⟩
noncomputable def g_is_step : SF := (sSeq (sIf (tOr (tNot (tTru (eUn (isiG .tup) (eVar 0)))) (tVal (eOp ltG (eUn lenD (eVar 0)) (eC (.int 3))))) (sRet (eC (.bl false))) sNil)
 (sSeq (sIf (tAnd (tVal (eOp eqG (eOp ixG (eVar 0) (eC (.int 0))) (eC (.str "add")))) (tVal (eOp eqG (eUn lenD (eVar 0)) (eC (.int 4))))) (sRet (eCall m_is_add (aCons (eVar 0) (aCons (eVar 1) (aCons (eVar 2) (aCons (eVar 3) aNil)))))) sNil)
 (sSeq (sIf (tAnd (tVal (eOp eqG (eOp ixG (eVar 0) (eC (.int 0))) (eC (.str "scale")))) (tVal (eOp eqG (eUn lenD (eVar 0)) (eC (.int 3))))) (sSeq (sIf (tOr (tNot (tTru (eCall m_is_number (aCons (eOp ixG (eVar 0) (eC (.int 1))) (aCons (eVar 2) aNil))))) (tNot (tTru (eCall m_is_number (aCons (eOp ixG (eVar 0) (eC (.int 2))) (aCons (eVar 1) aNil)))))) (sRet (eC (.bl false))) sNil)
 (sRet (isNN (eCall m_inverse_of (aCons (eOp ixG (eVar 0) (eC (.int 2))) (aCons (eVar 1) aNil)))))) sNil)
 (sSeq (sIf (tAnd (tVal (eOp eqG (eOp ixG (eVar 0) (eC (.int 0))) (eC (.str "swap")))) (tVal (eOp eqG (eUn lenD (eVar 0)) (eC (.int 3))))) (sSeq (sIf (tOr (tNot (tTru (eCall m_is_number (aCons (eOp ixG (eVar 0) (eC (.int 1))) (aCons (eVar 2) aNil))))) (tNot (tTru (eCall m_is_number (aCons (eOp ixG (eVar 0) (eC (.int 2))) (aCons (eVar 2) aNil)))))) (sRet (eC (.bl false))) sNil)
 (sRet (eOp neG (eOp ixG (eVar 0) (eC (.int 1))) (eOp ixG (eVar 0) (eC (.int 2)))))) sNil)
 (sRet (eAnd (eOp eqG (eOp ixG (eVar 0) (eC (.int 0))) (eC (.str "table"))) (eAnd (eOp eqG (eUn lenD (eVar 0)) (eC (.int 6))) (eCall m_is_look (aCons (eVar 0) (aCons (eVar 1) (aCons (eVar 2) aNil)))))))))))
noncomputable def m_is_step : List D → Hd → Option (Rs D) := mir N_is_step.length P_is_step.length g_is_step
theorem w_is_step {P : Program} {w : World} {K : PySem.W.Frag} {mg : Str → Option Value} {base : Heap} {f : Addr} {fd : FuncData} (F : FunD K "is_step" "is_step" (defArgs s_is_step) (defBody s_is_step) (defScope s_is_step) [] [] f fd) (b_isinstance : mg "isinstance" = none) (b_tuple : mg "tuple" = none) (b_len : mg "len" = none) (F_is_add : Dfn P w K mg base 4 "is_add" 4 m_is_add) (F_is_number : Dfn P w K mg base 2 "is_number" 2 m_is_number) (F_inverse_of : Dfn P w K mg base 1 "inverse_of" 2 m_inverse_of) (F_is_look : Dfn P w K mg base 4 "is_look" 3 m_is_look) : FnOk P w K mg base (L2.CX P w) 5 f fd P_is_step (spD K mg 4 m_is_step) := by
  refine fn_mk (k := 4) (g := g_is_step) F sc_is_step fun cdv A outer s H E hr => ?_
  have nd := sc_is_step.nd
  have tk : Takes (cxOf (L2.CX P w) P w K mg base N_is_step "is_step" (defScope s_is_step) f cdv A outer s H E) (fun cls d _ H => E cls d H) := takes_of rfl rfl rfl rfl
  have po : PassesOwn (model P w) (cxOf (L2.CX P w) P w K mg base N_is_step "is_step" (defScope s_is_step) f cdv A outer s H E).A (cxOf (L2.CX P w) P w K mg base N_is_step "is_step" (defScope s_is_step) f cdv A outer s H E).env (cxOf (L2.CX P w) P w K mg base N_is_step "is_step" (defScope s_is_step) f cdv A outer s H E).xe := passes_of rfl
  exact (dss_cons (ds_if (dt_w (dw_or (dt_not (dt_tru (de_isi .tup (de_var 0) b_isinstance b_tuple PyProof.Rows.boot_tuple))) (dw_or1 (dt_cmp op_lt od_lt (de_len (de_var 0) b_len) de_int)))) (dss_one (ds_ret de_bl)) dss_nil)
 (dss_cons (ds_if (dt_w (dw_and (dt_cmp (op_eqP hr.units) od_eq (de_ix (de_var 0) de_int) de_str) (dw_and1 (dt_cmp (op_eqP hr.units) od_eq (de_len (de_var 0) b_len) de_int)))) (dss_one (ds_ret (de_call (F_is_add.mono (by decide)) tk hr (da_cons (de_var 0) (da_cons (de_var 1) (da_cons (de_var 2) (da_cons (de_var 3) da_nil))))))) dss_nil)
 (dss_cons (ds_if (dt_w (dw_and (dt_cmp (op_eqP hr.units) od_eq (de_ix (de_var 0) de_int) de_str) (dw_and1 (dt_cmp (op_eqP hr.units) od_eq (de_len (de_var 0) b_len) de_int)))) (dss_cons (ds_if (dt_w (dw_or (dt_not (dt_tru (de_call (F_is_number.mono (by decide)) tk hr (da_cons (de_ix (de_var 0) de_int) (da_cons (de_var 2) da_nil))))) (dw_or1 (dt_not (dt_tru (de_call (F_is_number.mono (by decide)) tk hr (da_cons (de_ix (de_var 0) de_int) (da_cons (de_var 1) da_nil)))))))) (dss_one (ds_ret de_bl)) dss_nil)
 (dss_one (ds_ret (de_isNN (de_call (F_inverse_of.mono (by decide)) tk hr (da_cons (de_ix (de_var 0) de_int) (da_cons (de_var 1) da_nil))))))) dss_nil)
 (dss_cons (ds_if (dt_w (dw_and (dt_cmp (op_eqP hr.units) od_eq (de_ix (de_var 0) de_int) de_str) (dw_and1 (dt_cmp (op_eqP hr.units) od_eq (de_len (de_var 0) b_len) de_int)))) (dss_cons (ds_if (dt_w (dw_or (dt_not (dt_tru (de_call (F_is_number.mono (by decide)) tk hr (da_cons (de_ix (de_var 0) de_int) (da_cons (de_var 2) da_nil))))) (dw_or1 (dt_not (dt_tru (de_call (F_is_number.mono (by decide)) tk hr (da_cons (de_ix (de_var 0) de_int) (da_cons (de_var 2) da_nil)))))))) (dss_one (ds_ret de_bl)) dss_nil)
 (dss_one (ds_ret (de_cmp (op_neP hr.units) od_ne (de_ix (de_var 0) de_int) (de_ix (de_var 0) de_int))))) dss_nil)
 (dss_one (ds_ret (de_and (de_cmp (op_eqP hr.units) od_eq (de_ix (de_var 0) de_int) de_str) (de_and (de_cmp (op_eqP hr.units) od_eq (de_len (de_var 0) b_len) de_int) (de_andE (de_call (F_is_look.mono (by decide)) tk hr (da_cons (de_var 0) (da_cons (de_var 1) (da_cons (de_var 2) da_nil)))))))))))))
theorem d_is_step {P : Program} {w : World} {K : PySem.W.Frag} {mg : Str → Option Value} {base : Heap} {f : Addr} {fd : FuncData} (F : FunD K "is_step" "is_step" (defArgs s_is_step) (defBody s_is_step) (defScope s_is_step) [] [] f fd) (hmg : mg "is_step" = some (.ref f)) (b_isinstance : mg "isinstance" = none) (b_tuple : mg "tuple" = none) (b_len : mg "len" = none) (F_is_add : Dfn P w K mg base 4 "is_add" 4 m_is_add) (F_is_number : Dfn P w K mg base 2 "is_number" 2 m_is_number) (F_inverse_of : Dfn P w K mg base 1 "inverse_of" 2 m_inverse_of) (F_is_look : Dfn P w K mg base 4 "is_look" 3 m_is_look) : Dfn P w K mg base 5 "is_step" 4 m_is_step :=
  dfn_of F hmg (FunD.bindsN F fun _ _ _ _ _ _ us hl => match us, hl with | [_, _, _, _], _ => rfl) (w_is_step F b_isinstance b_tuple b_len F_is_add F_is_number F_inverse_of F_is_look)

abbrev N_is_prime : List Str := ["n", "divisor"]
abbrev P_is_prime : List Str := ["n"]
theorem sc_is_prime : FnScope N_is_prime P_is_prime (defScope s_is_prime) := ⟨rfl, rfl, rfl, by decide +kernel, rfl, by decide +kernel, by decide +kernel⟩
noncomputable def g_is_prime : SF := (sSeq (sIf (tVal (eOp ltG (eVar 0) (eC (.int 2)))) (sRet (eC (.bl false))) sNil)
 (sSeq (sIf (tVal (eOp eqG (eOp modG (eVar 0) (eC (.int 2))) (eC (.int 0)))) (sRet (eOp eqG (eVar 0) (eC (.int 2)))) sNil)
 (sSeq (sAsg 1 (eC (.int 3)))
 (sSeq (sWhile (tVal (eOp leG (eOp mulG (eVar 1) (eVar 1)) (eVar 0))) (sSeq (sIf (tVal (eOp eqG (eOp modG (eVar 0) (eVar 1)) (eC (.int 0)))) (sRet (eC (.bl false))) sNil)
 (sAug addIG 1 (eC (.int 2)))))
 (sRet (eC (.bl true)))))))
noncomputable def m_is_prime : List D → Hd → Option (Rs D) := mir N_is_prime.length P_is_prime.length g_is_prime
theorem w_is_prime {P : Program} {w : World} {K : PySem.W.Frag} {mg : Str → Option Value} {base : Heap} {f : Addr} {fd : FuncData} (F : FunD K "is_prime" "is_prime" (defArgs s_is_prime) (defBody s_is_prime) (defScope s_is_prime) [] [] f fd) : FnOk P w K mg base (L2.CX P w) 1 f fd P_is_prime (spD K mg 1 m_is_prime) := by
  refine fn_mk (k := 0) (g := g_is_prime) F sc_is_prime fun cdv A outer s H E hr => ?_
  have nd := sc_is_prime.nd
  have tk : Takes (cxOf (L2.CX P w) P w K mg base N_is_prime "is_prime" (defScope s_is_prime) f cdv A outer s H E) (fun cls d _ H => E cls d H) := takes_of rfl rfl rfl rfl
  have po : PassesOwn (model P w) (cxOf (L2.CX P w) P w K mg base N_is_prime "is_prime" (defScope s_is_prime) f cdv A outer s H E).A (cxOf (L2.CX P w) P w K mg base N_is_prime "is_prime" (defScope s_is_prime) f cdv A outer s H E).env (cxOf (L2.CX P w) P w K mg base N_is_prime "is_prime" (defScope s_is_prime) f cdv A outer s H E).xe := passes_of rfl
  exact (dss_cons (ds_if (dt_cmp op_lt od_lt (de_var 0) de_int) (dss_one (ds_ret de_bl)) dss_nil)
 (dss_cons (ds_if (dt_cmp (op_eqP hr.units) od_eq (de_op op_mod od_mod (de_var 0) de_int) de_int) (dss_one (ds_ret (de_cmp (op_eqP hr.units) od_eq (de_var 0) de_int))) dss_nil)
 (dss_cons (ds_set 1 nd de_int)
 (dss_cons (ds_while (hp := po) (dt_cmp op_le od_le (de_op op_mulD od_mul (de_var 1) (de_var 1)) (de_var 0)) (dss_cons (ds_if (dt_cmp (op_eqP hr.units) od_eq (de_op op_mod od_mod (de_var 0) (de_var 1)) de_int) (dss_one (ds_ret de_bl)) dss_nil)
 (dss_one (ds_aug 1 nd (ip_op iop_add) od_addI de_int))))
 (dss_one (ds_ret de_bl))))))
theorem d_is_prime {P : Program} {w : World} {K : PySem.W.Frag} {mg : Str → Option Value} {base : Heap} {f : Addr} {fd : FuncData} (F : FunD K "is_prime" "is_prime" (defArgs s_is_prime) (defBody s_is_prime) (defScope s_is_prime) [] [] f fd) (hmg : mg "is_prime" = some (.ref f)) : Dfn P w K mg base 1 "is_prime" 1 m_is_prime :=
  dfn_of F hmg (FunD.bindsN F fun _ _ _ _ _ _ us hl => match us, hl with | [_], _ => rfl) (w_is_prime F)

abbrev N_check_steps : List Str := ["steps", "modulus", "cells", "inputs", "most", "looks", "step"]
abbrev P_check_steps : List Str := ["steps", "modulus", "cells", "inputs", "most"]
theorem sc_check_steps : FnScope N_check_steps P_check_steps (defScope s_check_steps) := ⟨rfl, rfl, rfl, by decide +kernel, rfl, by decide +kernel, by decide +kernel⟩
noncomputable def g_check_steps : SF := (sSeq (sIf (tOr (tNot (tTru (eUn (isiG .lst) (eVar 0)))) (tVal (eOp gtG (eUn lenD (eVar 0)) (eVar 4)))) (sRaise "BadStep") sNil)
 (sSeq (sAsg 5 (eC (.bl false)))
 (sSeq (sFor (seqI (eVar 0)) (.nm 6) (sSeq (sIf (tNot (tTru (eCall m_is_step (aCons (eVar 6) (aCons (eVar 1) (aCons (eVar 2) (aCons (eVar 3) aNil))))))) (sRaise "BadStep") sNil)
 (sAsg 5 (eOr (eVar 5) (eOp eqG (eOp ixG (eVar 6) (eC (.int 0))) (eC (.str "table")))))))
 (sIf (tAnd (tTru (eVar 5)) (tNot (tTru (eCall m_is_prime (aCons (eVar 1) aNil))))) (sRaise "BadStep") sNil))))
noncomputable def m_check_steps : List D → Hd → Option (Rs D) := mir N_check_steps.length P_check_steps.length g_check_steps
theorem w_check_steps {P : Program} {w : World} {K : PySem.W.Frag} {mg : Str → Option Value} {base : Heap} {f : Addr} {fd : FuncData} (F : FunD K "check_steps" "check_steps" (defArgs s_check_steps) (defBody s_check_steps) (defScope s_check_steps) [] [] f fd) (b_isinstance : mg "isinstance" = none) (b_list : mg "list" = none) (b_len : mg "len" = none) (F_is_step : Dfn P w K mg base 5 "is_step" 4 m_is_step) (F_is_prime : Dfn P w K mg base 1 "is_prime" 1 m_is_prime) (x_BadStep : XCl K mg "BadStep") : FnOk P w K mg base (L2.CX P w) 6 f fd P_check_steps (spD K mg 5 m_check_steps) := by
  refine fn_mk (k := 5) (g := g_check_steps) F sc_check_steps fun cdv A outer s H E hr => ?_
  have nd := sc_check_steps.nd
  have tk : Takes (cxOf (L2.CX P w) P w K mg base N_check_steps "check_steps" (defScope s_check_steps) f cdv A outer s H E) (fun cls d _ H => E cls d H) := takes_of rfl rfl rfl rfl
  have po : PassesOwn (model P w) (cxOf (L2.CX P w) P w K mg base N_check_steps "check_steps" (defScope s_check_steps) f cdv A outer s H E).A (cxOf (L2.CX P w) P w K mg base N_check_steps "check_steps" (defScope s_check_steps) f cdv A outer s H E).env (cxOf (L2.CX P w) P w K mg base N_check_steps "check_steps" (defScope s_check_steps) f cdv A outer s H E).xe := passes_of rfl
  exact (dss_cons (ds_if (dt_w (dw_or (dt_not (dt_tru (de_isi .lst (de_var 0) b_isinstance b_list PyProof.Rows.boot_list))) (dw_or1 (dt_cmp op_gt od_gt (de_len (de_var 0) b_len) (de_var 4))))) (dss_one (ds_raise rfl tk x_BadStep)) dss_nil)
 (dss_cons (ds_set 5 nd de_bl)
 (dss_cons (ds_for po rfl (di_seq (de_var 0)) (dg_nm 6 nd) (dss_cons (ds_if (dt_not (dt_tru (de_call (F_is_step.mono (by decide)) tk hr (da_cons (de_var 6) (da_cons (de_var 1) (da_cons (de_var 2) (da_cons (de_var 3) da_nil))))))) (dss_one (ds_raise rfl tk x_BadStep)) dss_nil)
 (dss_one (ds_set 5 nd (de_or (de_var 5) (de_orE (de_cmp (op_eqP hr.units) od_eq (de_ix (de_var 6) de_int) de_str)))))))
 (dss_one (ds_if (dt_w (dw_and (dt_tru (de_var 5)) (dw_and1 (dt_not (dt_tru (de_call (F_is_prime.mono (by decide)) tk hr (da_cons (de_var 1) da_nil))))))) (dss_one (ds_raise rfl tk x_BadStep)) dss_nil)))))
theorem d_check_steps {P : Program} {w : World} {K : PySem.W.Frag} {mg : Str → Option Value} {base : Heap} {f : Addr} {fd : FuncData} (F : FunD K "check_steps" "check_steps" (defArgs s_check_steps) (defBody s_check_steps) (defScope s_check_steps) [] [] f fd) (hmg : mg "check_steps" = some (.ref f)) (b_isinstance : mg "isinstance" = none) (b_list : mg "list" = none) (b_len : mg "len" = none) (F_is_step : Dfn P w K mg base 5 "is_step" 4 m_is_step) (F_is_prime : Dfn P w K mg base 1 "is_prime" 1 m_is_prime) (x_BadStep : XCl K mg "BadStep") : Dfn P w K mg base 6 "check_steps" 5 m_check_steps :=
  dfn_of F hmg (FunD.bindsN F fun _ _ _ _ _ _ us hl => match us, hl with | [_, _, _, _, _], _ => rfl) (w_check_steps F b_isinstance b_list b_len F_is_step F_is_prime x_BadStep)

abbrev N_Program___init__ : List Str := ["self", "modulus", "cells", "inputs", "steps"]
abbrev P_Program___init__ : List Str := ["self", "modulus", "cells", "inputs", "steps"]
theorem sc_Program___init__ : FnScope N_Program___init__ P_Program___init__ (defScope s_Program___init__) := ⟨rfl, rfl, rfl, by decide +kernel, rfl, by decide +kernel, by decide +kernel⟩
noncomputable def g_Program___init__ : SF := (sSeq (sIf (tOr (tNot (tTru (eCall m_is_integer (aCons (eVar 1) aNil)))) (tNot (tVal (eChain leG leG (eC (.int 2)) (eVar 1) (eC (.int 1000000000)))))) (sRaise "BadStep") sNil)
 (sSeq (sIf (tOr (tNot (tTru (eCall m_is_integer (aCons (eVar 2) aNil)))) (tNot (tVal (eChain leG leG (eC (.int 1)) (eVar 2) (eC (.int 60)))))) (sRaise "BadStep") sNil)
 (sSeq (sIf (tOr (tNot (tTru (eCall m_is_integer (aCons (eVar 3) aNil)))) (tNot (tVal (eChain leG leG (eC (.int 0)) (eVar 3) (eC (.int 60)))))) (sRaise "BadStep") sNil)
 (sSeq (sDrop (eCall m_check_steps (aCons (eVar 4) (aCons (eVar 1) (aCons (eVar 2) (aCons (eVar 3) (aCons (eC (.int 20000)) aNil)))))))
 (sSeq (sFld "Program" "modulus" (eVar 0) (eVar 1))
 (sSeq (sFld "Program" "cells" (eVar 0) (eVar 2))
 (sSeq (sFld "Program" "inputs" (eVar 0) (eVar 3))
 (sFld "Program" "steps" (eVar 0) (eUn listG (eVar 4))))))))))
noncomputable def m_Program___init__ : List D → Hd → Option (Rs D) := mir N_Program___init__.length P_Program___init__.length g_Program___init__
theorem w_Program___init__ {P : Program} {w : World} {K : PySem.W.Frag} {mg : Str → Option Value} {base : Heap} {f : Addr} {fd : FuncData} (F : FunD K "__init__" "Program.__init__" (defArgs s_Program___init__) (defBody s_Program___init__) (defScope s_Program___init__) [] [] f fd) (b_list : mg "list" = none) (c_MODULUS : ∃ u, mg "MODULUS" = some u ∧ RelV (.int  1000000000) u) (c_CELLS : ∃ u, mg "CELLS" = some u ∧ RelV (.int  60) u) (c_INPUTS : ∃ u, mg "INPUTS" = some u ∧ RelV (.int  60) u) (c_STEPS : ∃ u, mg "STEPS" = some u ∧ RelV (.int  20000) u) (F_is_integer : Dfn P w K mg base 1 "is_integer" 1 m_is_integer) (F_check_steps : Dfn P w K mg base 6 "check_steps" 5 m_check_steps) (x_BadStep : XCl K mg "BadStep") (cf_Program : ClsK K mg "Program" ["modulus", "cells", "inputs", "steps"]) : FnOk P w K mg base (L2.CX P w) 7 f fd P_Program___init__ (spD K mg 5 m_Program___init__) := by
  refine fn_mk (k := 6) (g := g_Program___init__) F sc_Program___init__ fun cdv A outer s H E hr => ?_
  have nd := sc_Program___init__.nd
  have tk : Takes (cxOf (L2.CX P w) P w K mg base N_Program___init__ "Program.__init__" (defScope s_Program___init__) f cdv A outer s H E) (fun cls d _ H => E cls d H) := takes_of rfl rfl rfl rfl
  have po : PassesOwn (model P w) (cxOf (L2.CX P w) P w K mg base N_Program___init__ "Program.__init__" (defScope s_Program___init__) f cdv A outer s H E).A (cxOf (L2.CX P w) P w K mg base N_Program___init__ "Program.__init__" (defScope s_Program___init__) f cdv A outer s H E).env (cxOf (L2.CX P w) P w K mg base N_Program___init__ "Program.__init__" (defScope s_Program___init__) f cdv A outer s H E).xe := passes_of rfl
  exact (dss_cons (ds_if (dt_w (dw_or (dt_not (dt_tru (de_call (F_is_integer.mono (by decide)) tk hr (da_cons (de_var 1) da_nil)))) (dw_or1 (dt_not (dt_chain op_le od_le op_le od_le de_int (de_var 1) (de_gi c_MODULUS)))))) (dss_one (ds_raise rfl tk x_BadStep)) dss_nil)
 (dss_cons (ds_if (dt_w (dw_or (dt_not (dt_tru (de_call (F_is_integer.mono (by decide)) tk hr (da_cons (de_var 2) da_nil)))) (dw_or1 (dt_not (dt_chain op_le od_le op_le od_le de_int (de_var 2) (de_gi c_CELLS)))))) (dss_one (ds_raise rfl tk x_BadStep)) dss_nil)
 (dss_cons (ds_if (dt_w (dw_or (dt_not (dt_tru (de_call (F_is_integer.mono (by decide)) tk hr (da_cons (de_var 3) da_nil)))) (dw_or1 (dt_not (dt_chain op_le od_le op_le od_le de_int (de_var 3) (de_gi c_INPUTS)))))) (dss_one (ds_raise rfl tk x_BadStep)) dss_nil)
 (dss_cons (ds_drop (de_call (F_check_steps.mono (by decide)) tk hr (da_cons (de_var 4) (da_cons (de_var 1) (da_cons (de_var 2) (da_cons (de_var 3) (da_cons (de_gi c_STEPS) da_nil)))))))
 (dss_cons (ds_fld cf_Program (List.Mem.head _) (de_var 0) (de_var 1))
 (dss_cons (ds_fld cf_Program (List.Mem.tail _ (List.Mem.head _)) (de_var 0) (de_var 2))
 (dss_cons (ds_fld cf_Program (List.Mem.tail _ (List.Mem.tail _ (List.Mem.head _))) (de_var 0) (de_var 3))
 (dss_one (ds_fld cf_Program (List.Mem.tail _ (List.Mem.tail _ (List.Mem.tail _ (List.Mem.head _)))) (de_var 0) (de_list (de_var 4) b_list))))))))))
theorem d_Program___init__ {P : Program} {w : World} {K : PySem.W.Frag} {mg : Str → Option Value} {base : Heap} {f : Addr} {fd : FuncData} (F : FunD K "__init__" "Program.__init__" (defArgs s_Program___init__) (defBody s_Program___init__) (defScope s_Program___init__) [] [] f fd) {C : Addr} (hC : mg "Program" = some (.ref C)) (hm : Mk K C f) (b_list : mg "list" = none) (c_MODULUS : ∃ u, mg "MODULUS" = some u ∧ RelV (.int  1000000000) u) (c_CELLS : ∃ u, mg "CELLS" = some u ∧ RelV (.int  60) u) (c_INPUTS : ∃ u, mg "INPUTS" = some u ∧ RelV (.int  60) u) (c_STEPS : ∃ u, mg "STEPS" = some u ∧ RelV (.int  20000) u) (F_is_integer : Dfn P w K mg base 1 "is_integer" 1 m_is_integer) (F_check_steps : Dfn P w K mg base 6 "check_steps" 5 m_check_steps) (x_BadStep : XCl K mg "BadStep") (cf_Program : ClsK K mg "Program" ["modulus", "cells", "inputs", "steps"]) : MkI P w K mg base 7 "Program" 5 m_Program___init__ :=
  ⟨fun ds M o e => mir_len e, C, f, fd, P_Program___init__, hC, hm, (FunD.bindsN F fun _ _ _ _ _ _ us hl => match us, hl with | [_, _, _, _, _], _ => rfl), (w_Program___init__ F b_list c_MODULUS c_CELLS c_INPUTS c_STEPS F_is_integer F_check_steps x_BadStep cf_Program)⟩

abbrev N__law_move : List Str := ["_law_draws", "_law_house_here", "_law_modulus_here", "_law_known", "_law_vault", "_law_tickets", "_law_size_here", "_law_loan_here", "_law_pair", "_law_given", "_law_ticket", "_law_moved", "_law_k"]
abbrev P__law_move : List Str := ["_law_draws", "_law_house_here", "_law_modulus_here", "_law_known"]
theorem sc__law_move : FnScope N__law_move P__law_move (defScope s__law_move) := ⟨rfl, rfl, rfl, by decide +kernel, rfl, by decide +kernel, by decide +kernel⟩
noncomputable def g__law_move : SF := (sSeq (sAsg 4 (eOp ixG (eVar 1) (eC (.int 0))))
 (sSeq (sAsg 5 (eMeth "Vault" "open_loans" m_Vault_open_loans (eVar 4) aNil))
 (sSeq (sAsg 6 (eCB min2 (aCons (eC (.int 8)) (aCons (eUn lenD (eOp ixG (eVar 1) (eC (.int 1)))) aNil))))
 (sIf (tAnd (tVal (eOp ltG (eOp ixG (eVar 1) (eC (.int 4))) (eC (.int 6)))) (tOr (tVal (eOp eqG (eUn lenD (eVar 5)) (eC (.int 0)))) (tVal (eOp eqG (eOp modG (eCall m__law_draw (aCons (eVar 0) aNil)) (eC (.int 5))) (eC (.int 0)))))) (sSeq (sIf (tVal (eOp ltG (eUn lenD (eVar 3)) (eC (.int 2)))) (sSeq (sAsg 7 (eCall m__law_loan (aCons (eVar 0) (aCons (eVar 2) (aCons (eVar 6) aNil)))))
 (sDrop (eLm appendG (eVar 3) (aCons (eLst (aCons (eVar 7) (aCons (eMake "Program" m_Program___init__ (aCons (eVar 2) (aCons (eOp ixG (eVar 7) (eC (.int 0))) (aCons (eOp ixG (eVar 7) (eC (.int 1))) (aCons (eUn listG (eOp ixG (eVar 7) (eC (.int 2)))) aNil))))) aNil))) aNil)))) sNil)
 (sSeq (sAsg 8 (eOp ixG (eVar 3) (eOp modG (eCall m__law_draw (aCons (eVar 0) aNil)) (eUn lenD (eVar 3)))))
 (sIf (tVal (eOp leG (eOp ixG (eOp ixG (eVar 8) (eC (.int 0))) (eC (.int 0))) (eVar 6))) (sSeq (sAsg 9 (eLc (rng1 (eOp ixG (eOp ixG (eVar 8) (eC (.int 0))) (eC (.int 1)))) (.nm 12) tYes (eCall m__law_number (aCons (eVar 0) (aCons (eVar 2) aNil))) [12]))
 (sSeq (sDrop (eMeth "Vault" "lend" m_Vault_lend (eVar 4) (aCons (eOp ixG (eVar 8) (eC (.int 1))) (aCons (eCall m__law_places (aCons (eVar 0) (aCons (eVar 6) (aCons (eOp ixG (eOp ixG (eVar 8) (eC (.int 0))) (eC (.int 0))) aNil)))) (aCons (eVar 9) aNil)))))
 (sSetI (eOp addG (eOp ixG (eVar 1) (eC (.int 4))) (eC (.int 1))) (eVar 1) (eC (.int 4))))) sNil))) (sIf (tVal (eOp gtG (eUn lenD (eVar 5)) (eC (.int 0)))) (sSeq (sAsg 10 (eOp ixG (eVar 5) (eOp modG (eCall m__law_draw (aCons (eVar 0) aNil)) (eUn lenD (eVar 5)))))
 (sSeq (sAsg 11 (eCall m__law_called (aCons (eVar 4) (aCons (eOp modG (eCall m__law_draw (aCons (eVar 0) aNil)) (eC (.int 6))) (aCons (eVar 10) (aCons (eOp modG (eCall m__law_draw (aCons (eVar 0) aNil)) (eC (.int 5))) aNil))))))
 (sIf (tVal (eOp gtG (eVar 11) (eC (.int 0)))) (sSetI (eOp addG (eOp ixG (eVar 1) (eC (.int 2))) (eVar 11)) (eVar 1) (eC (.int 2))) (sSetI (eOp subG (eOp ixG (eVar 1) (eC (.int 3))) (eVar 11)) (eVar 1) (eC (.int 3)))))) sNil)))))
noncomputable def m__law_move : List D → Hd → Option (Rs D) := mir N__law_move.length P__law_move.length g__law_move
theorem w__law_move {P : Program} {w : World} {K : PySem.W.Frag} {mg : Str → Option Value} {base : Heap} {f : Addr} {fd : FuncData} (F : FunD K "_law_move" "_law_move" (defArgs s__law_move) (defBody s__law_move) (defScope s__law_move) [] [] f fd) (b_len : mg "len" = none) (b_min : mg "min" = none) (b_list : mg "list" = none) (b_range : mg "range" = none) (F_Vault_open_loans : Mth P w K mg base 1 "Vault" "open_loans" 1 m_Vault_open_loans) (F__law_draw : Dfn P w K mg base 2 "_law_draw" 1 m__law_draw) (F__law_loan : Dfn P w K mg base 6 "_law_loan" 3 m__law_loan) (F_Program___init__ : MkI P w K mg base 7 "Program" 5 m_Program___init__) (F__law_number : Dfn P w K mg base 3 "_law_number" 2 m__law_number) (F_Vault_lend : Mth P w K mg base 4 "Vault" "lend" 4 m_Vault_lend) (F__law_places : Dfn P w K mg base 3 "_law_places" 3 m__law_places) (F__law_called : Dfn P w K mg base 7 "_law_called" 4 m__law_called) : FnOk P w K mg base (L2.CX P w) 9 f fd P__law_move (spD K mg 4 m__law_move) := by
  refine fn_mk (k := 8) (g := g__law_move) F sc__law_move fun cdv A outer s H E hr => ?_
  have nd := sc__law_move.nd
  have tk : Takes (cxOf (L2.CX P w) P w K mg base N__law_move "_law_move" (defScope s__law_move) f cdv A outer s H E) (fun cls d _ H => E cls d H) := takes_of rfl rfl rfl rfl
  have po : PassesOwn (model P w) (cxOf (L2.CX P w) P w K mg base N__law_move "_law_move" (defScope s__law_move) f cdv A outer s H E).A (cxOf (L2.CX P w) P w K mg base N__law_move "_law_move" (defScope s__law_move) f cdv A outer s H E).env (cxOf (L2.CX P w) P w K mg base N__law_move "_law_move" (defScope s__law_move) f cdv A outer s H E).xe := passes_of rfl
  exact (dss_cons (ds_set 4 nd (de_ix (de_var 1) de_int))
 (dss_cons (ds_set 5 nd (de_meth0 (F_Vault_open_loans.mono (by decide)) tk hr (de_var 4)))
 (dss_cons (ds_set 6 nd (de_min2 rfl (da_cons de_int (da_cons (de_len (de_ix (de_var 1) de_int) b_len) da_nil)) b_min))
 (dss_one (ds_if (dt_w (dw_and (dt_cmp op_lt od_lt (de_ix (de_var 1) de_int) de_int) (dw_and1 (dt_w (dw_or (dt_cmp (op_eqP hr.units) od_eq (de_len (de_var 5) b_len) de_int) (dw_or1 (dt_cmp (op_eqP hr.units) od_eq (de_op op_mod od_mod (de_call (F__law_draw.mono (by decide)) tk hr (da_cons (de_var 0) da_nil)) de_int) de_int))))))) (dss_cons (ds_if (dt_cmp op_lt od_lt (de_len (de_var 3) b_len) de_int) (dss_cons (ds_set 7 nd (de_call (F__law_loan.mono (by decide)) tk hr (da_cons (de_var 0) (da_cons (de_var 2) (da_cons (de_var 6) da_nil)))))
 (dss_one (ds_drop (de_append (de_var 3) (da_cons (de_lst (da_cons (de_var 7) (da_cons (de_make (F_Program___init__.mono (by decide)) tk hr (da_cons (de_var 2) (da_cons (de_ix (de_var 7) de_int) (da_cons (de_ix (de_var 7) de_int) (da_cons (de_list (de_ix (de_var 7) de_int) b_list) da_nil))))) da_nil))) da_nil))))) dss_nil)
 (dss_cons (ds_set 8 nd (de_ix (de_var 3) (de_op op_mod od_mod (de_call (F__law_draw.mono (by decide)) tk hr (da_cons (de_var 0) da_nil)) (de_len (de_var 3) b_len))))
 (dss_one (ds_if (dt_cmp op_le od_le (de_ix (de_ix (de_var 8) de_int) de_int) (de_var 6)) (dss_cons (ds_setLc (own := [("_law_k", 12)]) (i := 9) rfl nd rfl rfl (sw_true rfl rfl rfl (by decide +kernel)) (di_rng1 (de_ix (de_ix (de_var 8) de_int) de_int) b_range) (blkOk_by (own := [("_law_k", 12)]) (N := N__law_move) (sc := defScope s__law_move) (by decide +kernel)) (by decide) (fun _ _ _ _ _ => (dg_nm 12 nd)) (fun _ _ _ _ _ => dts_nil) (fun _ _ _ _ _ => (de_call (F__law_number.mono (by decide)) takes0 hr (da_cons (de_var 0) (da_cons (de_var 2) da_nil)))))
 (dss_cons (ds_drop (de_meth (F_Vault_lend.mono (by decide)) tk hr (de_var 4) (da_cons (de_ix (de_var 8) de_int) (da_cons (de_call (F__law_places.mono (by decide)) tk hr (da_cons (de_var 0) (da_cons (de_var 6) (da_cons (de_ix (de_ix (de_var 8) de_int) de_int) da_nil)))) (da_cons (de_var 9) da_nil)))))
 (dss_one (ds_setI (de_op op_addD od_add (de_ix (de_var 1) de_int) de_int) (de_var 1) de_int)))) dss_nil)))) (dss_one (ds_if (dt_cmp op_gt od_gt (de_len (de_var 5) b_len) de_int) (dss_cons (ds_set 10 nd (de_ix (de_var 5) (de_op op_mod od_mod (de_call (F__law_draw.mono (by decide)) tk hr (da_cons (de_var 0) da_nil)) (de_len (de_var 5) b_len))))
 (dss_cons (ds_set 11 nd (de_call (F__law_called.mono (by decide)) tk hr (da_cons (de_var 4) (da_cons (de_op op_mod od_mod (de_call (F__law_draw.mono (by decide)) tk hr (da_cons (de_var 0) da_nil)) de_int) (da_cons (de_var 10) (da_cons (de_op op_mod od_mod (de_call (F__law_draw.mono (by decide)) tk hr (da_cons (de_var 0) da_nil)) de_int) da_nil))))))
 (dss_one (ds_if (dt_cmp op_gt od_gt (de_var 11) de_int) (dss_one (ds_setI (de_op op_addD od_add (de_ix (de_var 1) de_int) (de_var 11)) (de_var 1) de_int)) (dss_one (ds_setI (de_op op_sub od_sub (de_ix (de_var 1) de_int) (de_var 11)) (de_var 1) de_int)))))) dss_nil)))))))
theorem d__law_move {P : Program} {w : World} {K : PySem.W.Frag} {mg : Str → Option Value} {base : Heap} {f : Addr} {fd : FuncData} (F : FunD K "_law_move" "_law_move" (defArgs s__law_move) (defBody s__law_move) (defScope s__law_move) [] [] f fd) (hmg : mg "_law_move" = some (.ref f)) (b_len : mg "len" = none) (b_min : mg "min" = none) (b_list : mg "list" = none) (b_range : mg "range" = none) (F_Vault_open_loans : Mth P w K mg base 1 "Vault" "open_loans" 1 m_Vault_open_loans) (F__law_draw : Dfn P w K mg base 2 "_law_draw" 1 m__law_draw) (F__law_loan : Dfn P w K mg base 6 "_law_loan" 3 m__law_loan) (F_Program___init__ : MkI P w K mg base 7 "Program" 5 m_Program___init__) (F__law_number : Dfn P w K mg base 3 "_law_number" 2 m__law_number) (F_Vault_lend : Mth P w K mg base 4 "Vault" "lend" 4 m_Vault_lend) (F__law_places : Dfn P w K mg base 3 "_law_places" 3 m__law_places) (F__law_called : Dfn P w K mg base 7 "_law_called" 4 m__law_called) : Dfn P w K mg base 9 "_law_move" 4 m__law_move :=
  dfn_of F hmg (FunD.bindsN F fun _ _ _ _ _ _ us hl => match us, hl with | [_, _, _, _], _ => rfl) (w__law_move F b_len b_min b_list b_range F_Vault_open_loans F__law_draw F__law_loan F_Program___init__ F__law_number F_Vault_lend F__law_places F__law_called)

abbrev N__law_equal : List Str := ["_law_actual", "_law_due"]
abbrev P__law_equal : List Str := ["_law_actual", "_law_due"]
theorem sc__law_equal : FnScope N__law_equal P__law_equal (defScope s__law_equal) := ⟨rfl, rfl, rfl, by decide +kernel, rfl, by decide +kernel, by decide +kernel⟩
noncomputable def g__law_equal (m__law_equal m__law_all_equal : List D → Hd → Option (Rs D)) : SF := (sSeq (sIf (tTru (eUn (isiG .lst) (eVar 1))) (sSeq (sIf (tOr (tNot (tTru (eUn (isiG .lst) (eVar 0)))) (tVal (eOp neG (eUn lenD (eVar 0)) (eUn lenD (eVar 1))))) (sRet (eC (.bl false))) sNil)
 (sRet (eCall m__law_all_equal (aCons (eVar 0) (aCons (eVar 1) aNil))))) sNil)
 (sSeq (sIf (tTru (eUn (isiG .tup) (eVar 1))) (sSeq (sIf (tOr (tNot (tTru (eUn (isiG .tup) (eVar 0)))) (tVal (eOp neG (eUn lenD (eVar 0)) (eUn lenD (eVar 1))))) (sRet (eC (.bl false))) sNil)
 (sRet (eCall m__law_all_equal (aCons (eVar 0) (aCons (eVar 1) aNil))))) sNil)
 (sSeq (sIf (tTru (eUn (isiG .bl) (eVar 1))) (sRet (eAnd (eUn (isiG .bl) (eVar 0)) (eOp eqG (eVar 0) (eVar 1)))) sNil)
 (sSeq (sIf (tTru (eUn (isiG .int) (eVar 1))) (sRet (eAnd (eUn (isiG .int) (eVar 0)) (eAnd (eNot (eUn (isiG .bl) (eVar 0))) (eOp eqG (eVar 0) (eVar 1))))) sNil)
 (sSeq (sIf (tTru (eUn (isiG .str) (eVar 1))) (sRet (eAnd (eUn (isiG .str) (eVar 0)) (eOp eqG (eVar 0) (eVar 1)))) sNil)
 (sRet (isN (eVar 0))))))))
abbrev N__law_all_equal : List Str := ["_law_actual", "_law_due", "_law_k"]
abbrev P__law_all_equal : List Str := ["_law_actual", "_law_due"]
theorem sc__law_all_equal : FnScope N__law_all_equal P__law_all_equal (defScope s__law_all_equal) := ⟨rfl, rfl, rfl, by decide +kernel, rfl, by decide +kernel, by decide +kernel⟩
noncomputable def g__law_all_equal (m__law_equal m__law_all_equal : List D → Hd → Option (Rs D)) : SF := (sSeq (sFor (rng1 (eUn lenD (eVar 1))) (.nm 2) (sIf (tNot (tTru (eCall m__law_equal (aCons (eOp ixG (eVar 0) (eVar 2)) (aCons (eOp ixG (eVar 1) (eVar 2)) aNil))))) (sRet (eC (.bl false))) sNil))
 (sRet (eC (.bl true))))
theorem w__law_equal {P : Program} {w : World} {K : PySem.W.Frag} {mg : Str → Option Value} {base : Heap} {f : Addr} {fd : FuncData} (F : FunD K "_law_equal" "_law_equal" (defArgs s__law_equal) (defBody s__law_equal) (defScope s__law_equal) [] [] f fd) {L : Nat} (hL : 0 ≤ L) {m__law_equal m__law_all_equal : List D → Hd → Option (Rs D)} (b_isinstance : mg "isinstance" = none) (b_list : mg "list" = none) (b_len : mg "len" = none) (b_tuple : mg "tuple" = none) (b_bool : mg "bool" = none) (b_int : mg "int" = none) (b_str : mg "str" = none) (b_range : mg "range" = none) (F__law_equal : Dfn P w K mg base L "_law_equal" 2 m__law_equal) (F__law_all_equal : Dfn P w K mg base L "_law_all_equal" 2 m__law_all_equal) : FnOk P w K mg base (L2.CX P w) (L + 1) f fd P__law_equal (spD K mg 2 (mir N__law_equal.length P__law_equal.length (g__law_equal m__law_equal m__law_all_equal))) := by
  refine fn_mk (k := L) (g := g__law_equal m__law_equal m__law_all_equal) F sc__law_equal fun cdv A outer s H E hr => ?_
  have nd := sc__law_equal.nd
  have tk : Takes (cxOf (L2.CX P w) P w K mg base N__law_equal "_law_equal" (defScope s__law_equal) f cdv A outer s H E) (fun cls d _ H => E cls d H) := takes_of rfl rfl rfl rfl
  have po : PassesOwn (model P w) (cxOf (L2.CX P w) P w K mg base N__law_equal "_law_equal" (defScope s__law_equal) f cdv A outer s H E).A (cxOf (L2.CX P w) P w K mg base N__law_equal "_law_equal" (defScope s__law_equal) f cdv A outer s H E).env (cxOf (L2.CX P w) P w K mg base N__law_equal "_law_equal" (defScope s__law_equal) f cdv A outer s H E).xe := passes_of rfl
  exact (dss_cons (ds_if (dt_tru (de_isi .lst (de_var 1) b_isinstance b_list PyProof.Rows.boot_list)) (dss_cons (ds_if (dt_w (dw_or (dt_not (dt_tru (de_isi .lst (de_var 0) b_isinstance b_list PyProof.Rows.boot_list))) (dw_or1 (dt_cmp (op_neP hr.units) od_ne (de_len (de_var 0) b_len) (de_len (de_var 1) b_len))))) (dss_one (ds_ret de_bl)) dss_nil)
 (dss_one (ds_ret (de_call (F__law_all_equal.mono (by omega)) tk hr (da_cons (de_var 0) (da_cons (de_var 1) da_nil)))))) dss_nil)
 (dss_cons (ds_if (dt_tru (de_isi .tup (de_var 1) b_isinstance b_tuple PyProof.Rows.boot_tuple)) (dss_cons (ds_if (dt_w (dw_or (dt_not (dt_tru (de_isi .tup (de_var 0) b_isinstance b_tuple PyProof.Rows.boot_tuple))) (dw_or1 (dt_cmp (op_neP hr.units) od_ne (de_len (de_var 0) b_len) (de_len (de_var 1) b_len))))) (dss_one (ds_ret de_bl)) dss_nil)
 (dss_one (ds_ret (de_call (F__law_all_equal.mono (by omega)) tk hr (da_cons (de_var 0) (da_cons (de_var 1) da_nil)))))) dss_nil)
 (dss_cons (ds_if (dt_tru (de_isi .bl (de_var 1) b_isinstance b_bool PyProof.Rows.boot_bool)) (dss_one (ds_ret (de_and (de_isi .bl (de_var 0) b_isinstance b_bool PyProof.Rows.boot_bool) (de_andE (de_cmp (op_eqP hr.units) od_eq (de_var 0) (de_var 1)))))) dss_nil)
 (dss_cons (ds_if (dt_tru (de_isi .int (de_var 1) b_isinstance b_int PyProof.Rows.boot_int)) (dss_one (ds_ret (de_and (de_isi .int (de_var 0) b_isinstance b_int PyProof.Rows.boot_int) (de_and (de_not (de_isi .bl (de_var 0) b_isinstance b_bool PyProof.Rows.boot_bool)) (de_andE (de_cmp (op_eqP hr.units) od_eq (de_var 0) (de_var 1))))))) dss_nil)
 (dss_cons (ds_if (dt_tru (de_isi .str (de_var 1) b_isinstance b_str PyProof.Rows.boot_str)) (dss_one (ds_ret (de_and (de_isi .str (de_var 0) b_isinstance b_str PyProof.Rows.boot_str) (de_andE (de_cmp (op_eqP hr.units) od_eq (de_var 0) (de_var 1)))))) dss_nil)
 (dss_one (ds_ret (de_isN (de_var 0)))))))))
theorem w__law_all_equal {P : Program} {w : World} {K : PySem.W.Frag} {mg : Str → Option Value} {base : Heap} {f : Addr} {fd : FuncData} (F : FunD K "_law_all_equal" "_law_all_equal" (defArgs s__law_all_equal) (defBody s__law_all_equal) (defScope s__law_all_equal) [] [] f fd) {L : Nat} (hL : 0 ≤ L) {m__law_equal m__law_all_equal : List D → Hd → Option (Rs D)} (b_isinstance : mg "isinstance" = none) (b_list : mg "list" = none) (b_len : mg "len" = none) (b_tuple : mg "tuple" = none) (b_bool : mg "bool" = none) (b_int : mg "int" = none) (b_str : mg "str" = none) (b_range : mg "range" = none) (F__law_equal : Dfn P w K mg base L "_law_equal" 2 m__law_equal) (F__law_all_equal : Dfn P w K mg base L "_law_all_equal" 2 m__law_all_equal) : FnOk P w K mg base (L2.CX P w) (L + 1) f fd P__law_all_equal (spD K mg 2 (mir N__law_all_equal.length P__law_all_equal.length (g__law_all_equal m__law_equal m__law_all_equal))) := by
  refine fn_mk (k := L) (g := g__law_all_equal m__law_equal m__law_all_equal) F sc__law_all_equal fun cdv A outer s H E hr => ?_
  have nd := sc__law_all_equal.nd
  have tk : Takes (cxOf (L2.CX P w) P w K mg base N__law_all_equal "_law_all_equal" (defScope s__law_all_equal) f cdv A outer s H E) (fun cls d _ H => E cls d H) := takes_of rfl rfl rfl rfl
  have po : PassesOwn (model P w) (cxOf (L2.CX P w) P w K mg base N__law_all_equal "_law_all_equal" (defScope s__law_all_equal) f cdv A outer s H E).A (cxOf (L2.CX P w) P w K mg base N__law_all_equal "_law_all_equal" (defScope s__law_all_equal) f cdv A outer s H E).env (cxOf (L2.CX P w) P w K mg base N__law_all_equal "_law_all_equal" (defScope s__law_all_equal) f cdv A outer s H E).xe := passes_of rfl
  exact (dss_cons (ds_for po rfl (di_rng1 (de_len (de_var 1) b_len) b_range) (dg_nm 2 nd) (dss_one (ds_if (dt_not (dt_tru (de_call (F__law_equal.mono (by omega)) tk hr (da_cons (de_ix (de_var 0) (de_var 2)) (da_cons (de_ix (de_var 1) (de_var 2)) da_nil))))) (dss_one (ds_ret de_bl)) dss_nil)))
 (dss_one (ds_ret de_bl)))
noncomputable def r__law_equal__law_all_equal : Nat → (List D → Hd → Option (Rs D)) × (List D → Hd → Option (Rs D))
  | 0 => ((fun _ _ => none), (fun _ _ => none))
  | n + 1 => (fun p => (mir N__law_equal.length P__law_equal.length (g__law_equal p.1 p.2), mir N__law_all_equal.length P__law_all_equal.length (g__law_all_equal p.1 p.2))) (r__law_equal__law_all_equal n)
noncomputable def m__law_equal : List D → Hd → Option (Rs D) := (r__law_equal__law_all_equal 9).1
noncomputable def m__law_all_equal : List D → Hd → Option (Rs D) := (r__law_equal__law_all_equal 9).2
theorem dr__law_equal__law_all_equal {P : Program} {w : World} {K : PySem.W.Frag} {mg : Str → Option Value} {base : Heap} {f0 : Addr} {fd0 : FuncData} (FD0 : FunD K "_law_equal" "_law_equal" (defArgs s__law_equal) (defBody s__law_equal) (defScope s__law_equal) [] [] f0 fd0) (hm0 : mg "_law_equal" = some (.ref f0)) {f1 : Addr} {fd1 : FuncData} (FD1 : FunD K "_law_all_equal" "_law_all_equal" (defArgs s__law_all_equal) (defBody s__law_all_equal) (defScope s__law_all_equal) [] [] f1 fd1) (hm1 : mg "_law_all_equal" = some (.ref f1)) (b_isinstance : mg "isinstance" = none) (b_list : mg "list" = none) (b_len : mg "len" = none) (b_tuple : mg "tuple" = none) (b_bool : mg "bool" = none) (b_int : mg "int" = none) (b_str : mg "str" = none) (b_range : mg "range" = none) : ∀ n, Dfn P w K mg base (0 + n) "_law_equal" 2 (r__law_equal__law_all_equal n).1 ∧ Dfn P w K mg base (0 + n) "_law_all_equal" 2 (r__law_equal__law_all_equal n).2 := by
  intro n
  induction n with
  | zero => exact ⟨Dfn.none (ps := P__law_equal) hm0 FD0.kp (FunD.bindsN FD0 fun _ _ _ _ _ _ us hl => match us, hl with | [_, _], _ => rfl), Dfn.none (ps := P__law_all_equal) hm1 FD1.kp (FunD.bindsN FD1 fun _ _ _ _ _ _ us hl => match us, hl with | [_, _], _ => rfl)⟩
  | succ n ih => exact ⟨dfn_of FD0 hm0 (FunD.bindsN FD0 fun _ _ _ _ _ _ us hl => match us, hl with | [_, _], _ => rfl) (w__law_equal FD0 (Nat.le_add_right 0 n) b_isinstance b_list b_len b_tuple b_bool b_int b_str b_range ih.1 ih.2), dfn_of FD1 hm1 (FunD.bindsN FD1 fun _ _ _ _ _ _ us hl => match us, hl with | [_, _], _ => rfl) (w__law_all_equal FD1 (Nat.le_add_right 0 n) b_isinstance b_list b_len b_tuple b_bool b_int b_str b_range ih.1 ih.2)⟩

abbrev N_Vault_memory : List Str := ["self"]
abbrev P_Vault_memory : List Str := ["self"]
theorem sc_Vault_memory : FnScope N_Vault_memory P_Vault_memory (defScope s_Vault_memory) := ⟨rfl, rfl, rfl, by decide +kernel, rfl, by decide +kernel, by decide +kernel⟩
noncomputable def g_Vault_memory : SF := (sRet (eUn listG (eUn (fldG "Vault" "cells") (eVar 0))))
noncomputable def m_Vault_memory : List D → Hd → Option (Rs D) := mir N_Vault_memory.length P_Vault_memory.length g_Vault_memory
theorem w_Vault_memory {P : Program} {w : World} {K : PySem.W.Frag} {mg : Str → Option Value} {base : Heap} {f : Addr} {fd : FuncData} (F : FunD K "memory" "Vault.memory" (defArgs s_Vault_memory) (defBody s_Vault_memory) (defScope s_Vault_memory) [] [] f fd) (b_list : mg "list" = none) (cf_Vault : ClsK K mg "Vault" ["modulus", "cells", "loans"]) : FnOk P w K mg base (L2.CX P w) 1 f fd P_Vault_memory (spD K mg 1 m_Vault_memory) := by
  refine fn_mk (k := 0) (g := g_Vault_memory) F sc_Vault_memory fun cdv A outer s H E hr => ?_
  have nd := sc_Vault_memory.nd
  have tk : Takes (cxOf (L2.CX P w) P w K mg base N_Vault_memory "Vault.memory" (defScope s_Vault_memory) f cdv A outer s H E) (fun cls d _ H => E cls d H) := takes_of rfl rfl rfl rfl
  have po : PassesOwn (model P w) (cxOf (L2.CX P w) P w K mg base N_Vault_memory "Vault.memory" (defScope s_Vault_memory) f cdv A outer s H E).A (cxOf (L2.CX P w) P w K mg base N_Vault_memory "Vault.memory" (defScope s_Vault_memory) f cdv A outer s H E).env (cxOf (L2.CX P w) P w K mg base N_Vault_memory "Vault.memory" (defScope s_Vault_memory) f cdv A outer s H E).xe := passes_of rfl
  exact (dss_one (ds_ret (de_list (de_fld cf_Vault (List.Mem.tail _ (List.Mem.head _)) (de_var 0)) b_list)))
theorem d_Vault_memory {P : Program} {w : World} {K : PySem.W.Frag} {mg : Str → Option Value} {base : Heap} {f : Addr} {fd : FuncData} (F : FunD K "memory" "Vault.memory" (defArgs s_Vault_memory) (defBody s_Vault_memory) (defScope s_Vault_memory) [] [] f fd) {C p : Addr} (hC : mg "Vault" = some (.ref C)) (hcl : Cls K C) (hm : PropOf K C "memory" p f) (b_list : mg "list" = none) (cf_Vault : ClsK K mg "Vault" ["modulus", "cells", "loans"]) : Prp P w K mg base 1 "Vault" "memory" 1 m_Vault_memory :=
  ⟨fun ds M o e => mir_len e, C, p, f, fd, P_Vault_memory, hC, hcl, hm, (FunD.bindsN F fun _ _ _ _ _ _ us hl => match us, hl with | [_], _ => rfl), (w_Vault_memory F b_list cf_Vault)⟩

abbrev N__law_given_back : List Str := ["_law_house_here", "_law_vault", "_law_turn", "_law_tickets"]
abbrev P__law_given_back : List Str := ["_law_house_here"]
theorem sc__law_given_back : FnScope N__law_given_back P__law_given_back (defScope s__law_given_back) := ⟨rfl, rfl, rfl, by decide +kernel, rfl, by decide +kernel, by decide +kernel⟩
noncomputable def g__law_given_back : SF := (sSeq (sAsg 1 (eOp ixG (eVar 0) (eC (.int 0))))
 (sSeq (sFor (rng1 (eC (.int 6))) (.nm 2) (sSeq (sAsg 3 (eMeth "Vault" "open_loans" m_Vault_open_loans (eVar 1) aNil))
 (sIf (tVal (eOp gtG (eUn lenD (eVar 3)) (eC (.int 0)))) (sSetI (eOp addG (eOp ixG (eVar 0) (eC (.int 3))) (eMeth "Vault" "recall" m_Vault_recall (eVar 1) (aCons (eOp ixG (eVar 3) (eOp subG (eUn lenD (eVar 3)) (eC (.int 1)))) aNil))) (eVar 0) (eC (.int 3))) sNil)))
 (sSeq (sIf (tOr (tNot (tTru (eCall m__law_equal (aCons (eMeth "Vault" "open_loans" m_Vault_open_loans (eVar 1) aNil) (aCons (eLst aNil) aNil))))) (tNot (tTru (eCall m__law_equal (aCons (ePrp "Vault" m_Vault_memory (eVar 1)) (aCons (eOp ixG (eVar 0) (eC (.int 1))) aNil)))))) (sRet (eC (.bl false))) sNil)
 (sRet (eCall m__law_equal (aCons (eOp ixG (eVar 0) (eC (.int 3))) (aCons (eOp ixG (eVar 0) (eC (.int 2))) aNil)))))))
noncomputable def m__law_given_back : List D → Hd → Option (Rs D) := mir N__law_given_back.length P__law_given_back.length g__law_given_back
theorem w__law_given_back {P : Program} {w : World} {K : PySem.W.Frag} {mg : Str → Option Value} {base : Heap} {f : Addr} {fd : FuncData} (F : FunD K "_law_given_back" "_law_given_back" (defArgs s__law_given_back) (defBody s__law_given_back) (defScope s__law_given_back) [] [] f fd) (b_range : mg "range" = none) (b_len : mg "len" = none) (F_Vault_open_loans : Mth P w K mg base 1 "Vault" "open_loans" 1 m_Vault_open_loans) (F_Vault_recall : Mth P w K mg base 6 "Vault" "recall" 2 m_Vault_recall) (F__law_equal : Dfn P w K mg base 9 "_law_equal" 2 m__law_equal) (F_Vault_memory : Prp P w K mg base 1 "Vault" "memory" 1 m_Vault_memory) : FnOk P w K mg base (L2.CX P w) 10 f fd P__law_given_back (spD K mg 1 m__law_given_back) := by
  refine fn_mk (k := 9) (g := g__law_given_back) F sc__law_given_back fun cdv A outer s H E hr => ?_
  have nd := sc__law_given_back.nd
  have tk : Takes (cxOf (L2.CX P w) P w K mg base N__law_given_back "_law_given_back" (defScope s__law_given_back) f cdv A outer s H E) (fun cls d _ H => E cls d H) := takes_of rfl rfl rfl rfl
  have po : PassesOwn (model P w) (cxOf (L2.CX P w) P w K mg base N__law_given_back "_law_given_back" (defScope s__law_given_back) f cdv A outer s H E).A (cxOf (L2.CX P w) P w K mg base N__law_given_back "_law_given_back" (defScope s__law_given_back) f cdv A outer s H E).env (cxOf (L2.CX P w) P w K mg base N__law_given_back "_law_given_back" (defScope s__law_given_back) f cdv A outer s H E).xe := passes_of rfl
  exact (dss_cons (ds_set 1 nd (de_ix (de_var 0) de_int))
 (dss_cons (ds_for po rfl (di_rng1 de_int b_range) (dg_nm 2 nd) (dss_cons (ds_set 3 nd (de_meth0 (F_Vault_open_loans.mono (by decide)) tk hr (de_var 1)))
 (dss_one (ds_if (dt_cmp op_gt od_gt (de_len (de_var 3) b_len) de_int) (dss_one (ds_setI (de_op op_addD od_add (de_ix (de_var 0) de_int) (de_meth (F_Vault_recall.mono (by decide)) tk hr (de_var 1) (da_cons (de_ix (de_var 3) (de_op op_sub od_sub (de_len (de_var 3) b_len) de_int)) da_nil))) (de_var 0) de_int)) dss_nil))))
 (dss_cons (ds_if (dt_w (dw_or (dt_not (dt_tru (de_call (F__law_equal.mono (by decide)) tk hr (da_cons (de_meth0 (F_Vault_open_loans.mono (by decide)) tk hr (de_var 1)) (da_cons (de_lst da_nil) da_nil))))) (dw_or1 (dt_not (dt_tru (de_call (F__law_equal.mono (by decide)) tk hr (da_cons (de_prop (F_Vault_memory.mono (by decide)) hr (de_var 1)) (da_cons (de_ix (de_var 0) de_int) da_nil)))))))) (dss_one (ds_ret de_bl)) dss_nil)
 (dss_one (ds_ret (de_call (F__law_equal.mono (by decide)) tk hr (da_cons (de_ix (de_var 0) de_int) (da_cons (de_ix (de_var 0) de_int) da_nil))))))))
theorem d__law_given_back {P : Program} {w : World} {K : PySem.W.Frag} {mg : Str → Option Value} {base : Heap} {f : Addr} {fd : FuncData} (F : FunD K "_law_given_back" "_law_given_back" (defArgs s__law_given_back) (defBody s__law_given_back) (defScope s__law_given_back) [] [] f fd) (hmg : mg "_law_given_back" = some (.ref f)) (b_range : mg "range" = none) (b_len : mg "len" = none) (F_Vault_open_loans : Mth P w K mg base 1 "Vault" "open_loans" 1 m_Vault_open_loans) (F_Vault_recall : Mth P w K mg base 6 "Vault" "recall" 2 m_Vault_recall) (F__law_equal : Dfn P w K mg base 9 "_law_equal" 2 m__law_equal) (F_Vault_memory : Prp P w K mg base 1 "Vault" "memory" 1 m_Vault_memory) : Dfn P w K mg base 10 "_law_given_back" 1 m__law_given_back :=
  dfn_of F hmg (FunD.bindsN F fun _ _ _ _ _ _ us hl => match us, hl with | [_], _ => rfl) (w__law_given_back F b_range b_len F_Vault_open_loans F_Vault_recall F__law_equal F_Vault_memory)

abbrev N_law : List Str := ["_law_script", "_law_draws", "_law_moduli", "_law_same", "_law_houses", "_law_known", "_law_turn", "_law_at"]
abbrev P_law : List Str := ["_law_script"]
theorem sc_law : FnScope N_law P_law (defScope s_law) := ⟨rfl, rfl, rfl, by decide +kernel, rfl, by decide +kernel, by decide +kernel⟩
noncomputable def g_law : SF := (sSeq (sAsg 1 (eLst (aCons (eCall m__law_numbers (aCons (eVar 0) aNil)) (aCons (eC (.int 0)) aNil))))
 (sSeq (sAsg 2 (eLst (aCons (eCall m__law_modulus (aCons (eVar 1) aNil)) (aCons (eCall m__law_modulus (aCons (eVar 1) aNil)) aNil))))
 (sSeq (sAsg 3 (eOp eqG (eOp modG (eCall m__law_draw (aCons (eVar 1) aNil)) (eC (.int 2))) (eC (.int 0))))
 (sSeq (sIf (tTru (eVar 3)) (sSetI (eOp ixG (eVar 2) (eC (.int 0))) (eVar 2) (eC (.int 1))) sNil)
 (sSeq (sAsg 4 (eLst (aCons (eCall m__law_house (aCons (eVar 1) (aCons (eOp ixG (eVar 2) (eC (.int 0))) aNil))) (aCons (eCall m__law_house (aCons (eVar 1) (aCons (eOp ixG (eVar 2) (eC (.int 1))) aNil))) aNil))))
 (sSeq (sAsg 5 (eLst (aCons (eLst aNil) (aCons (eLst aNil) aNil))))
 (sSeq (sIf (tTru (eVar 3)) (sSetI (eOp ixG (eVar 5) (eC (.int 0))) (eVar 5) (eC (.int 1))) sNil)
 (sSeq (sFor (rng1 (eOp modG (eCall m__law_draw (aCons (eVar 1) aNil)) (eC (.int 31)))) (.nm 6) (sSeq (sAsg 7 (eOp modG (eCall m__law_draw (aCons (eVar 1) aNil)) (eC (.int 2))))
 (sDrop (eCall m__law_move (aCons (eVar 1) (aCons (eOp ixG (eVar 4) (eVar 7)) (aCons (eOp ixG (eVar 2) (eVar 7)) (aCons (eOp ixG (eVar 5) (eVar 7)) aNil))))))))
 (sRet (eAnd (eCall m__law_given_back (aCons (eOp ixG (eVar 4) (eC (.int 0))) aNil)) (eCall m__law_given_back (aCons (eOp ixG (eVar 4) (eC (.int 1))) aNil))))))))))))
noncomputable def m_law : List D → Hd → Option (Rs D) := mir N_law.length P_law.length g_law
theorem w_law {P : Program} {w : World} {K : PySem.W.Frag} {mg : Str → Option Value} {base : Heap} {f : Addr} {fd : FuncData} (F : FunD K "law" "law" (defArgs s_law) (defBody s_law) (defScope s_law) [] [] f fd) (b_range : mg "range" = none) (F__law_numbers : Dfn P w K mg base 2 "_law_numbers" 1 m__law_numbers) (F__law_modulus : Dfn P w K mg base 3 "_law_modulus" 1 m__law_modulus) (F__law_draw : Dfn P w K mg base 2 "_law_draw" 1 m__law_draw) (F__law_house : Dfn P w K mg base 6 "_law_house" 2 m__law_house) (F__law_move : Dfn P w K mg base 9 "_law_move" 4 m__law_move) (F__law_given_back : Dfn P w K mg base 10 "_law_given_back" 1 m__law_given_back) : FnOk P w K mg base (L2.CX P w) 11 f fd P_law (spD K mg 1 m_law) := by
  refine fn_mk (k := 10) (g := g_law) F sc_law fun cdv A outer s H E hr => ?_
  have nd := sc_law.nd
  have tk : Takes (cxOf (L2.CX P w) P w K mg base N_law "law" (defScope s_law) f cdv A outer s H E) (fun cls d _ H => E cls d H) := takes_of rfl rfl rfl rfl
  have po : PassesOwn (model P w) (cxOf (L2.CX P w) P w K mg base N_law "law" (defScope s_law) f cdv A outer s H E).A (cxOf (L2.CX P w) P w K mg base N_law "law" (defScope s_law) f cdv A outer s H E).env (cxOf (L2.CX P w) P w K mg base N_law "law" (defScope s_law) f cdv A outer s H E).xe := passes_of rfl
  exact (dss_cons (ds_set 1 nd (de_lst (da_cons (de_call (F__law_numbers.mono (by decide)) tk hr (da_cons (de_var 0) da_nil)) (da_cons de_int da_nil))))
 (dss_cons (ds_set 2 nd (de_lst (da_cons (de_call (F__law_modulus.mono (by decide)) tk hr (da_cons (de_var 1) da_nil)) (da_cons (de_call (F__law_modulus.mono (by decide)) tk hr (da_cons (de_var 1) da_nil)) da_nil))))
 (dss_cons (ds_set 3 nd (de_cmp (op_eqP hr.units) od_eq (de_op op_mod od_mod (de_call (F__law_draw.mono (by decide)) tk hr (da_cons (de_var 1) da_nil)) de_int) de_int))
 (dss_cons (ds_if (dt_tru (de_var 3)) (dss_one (ds_setI (de_ix (de_var 2) de_int) (de_var 2) de_int)) dss_nil)
 (dss_cons (ds_set 4 nd (de_lst (da_cons (de_call (F__law_house.mono (by decide)) tk hr (da_cons (de_var 1) (da_cons (de_ix (de_var 2) de_int) da_nil))) (da_cons (de_call (F__law_house.mono (by decide)) tk hr (da_cons (de_var 1) (da_cons (de_ix (de_var 2) de_int) da_nil))) da_nil))))
 (dss_cons (ds_set 5 nd (de_lst (da_cons (de_lst da_nil) (da_cons (de_lst da_nil) da_nil))))
 (dss_cons (ds_if (dt_tru (de_var 3)) (dss_one (ds_setI (de_ix (de_var 5) de_int) (de_var 5) de_int)) dss_nil)
 (dss_cons (ds_for po rfl (di_rng1 (de_op op_mod od_mod (de_call (F__law_draw.mono (by decide)) tk hr (da_cons (de_var 1) da_nil)) de_int) b_range) (dg_nm 6 nd) (dss_cons (ds_set 7 nd (de_op op_mod od_mod (de_call (F__law_draw.mono (by decide)) tk hr (da_cons (de_var 1) da_nil)) de_int))
 (dss_one (ds_drop (de_call (F__law_move.mono (by decide)) tk hr (da_cons (de_var 1) (da_cons (de_ix (de_var 4) (de_var 7)) (da_cons (de_ix (de_var 2) (de_var 7)) (da_cons (de_ix (de_var 5) (de_var 7)) da_nil)))))))))
 (dss_one (ds_ret (de_and (de_call (F__law_given_back.mono (by decide)) tk hr (da_cons (de_ix (de_var 4) de_int) da_nil)) (de_andE (de_call (F__law_given_back.mono (by decide)) tk hr (da_cons (de_ix (de_var 4) de_int) da_nil))))))))))))))
theorem d_law {P : Program} {w : World} {K : PySem.W.Frag} {mg : Str → Option Value} {base : Heap} {f : Addr} {fd : FuncData} (F : FunD K "law" "law" (defArgs s_law) (defBody s_law) (defScope s_law) [] [] f fd) (hmg : mg "law" = some (.ref f)) (b_range : mg "range" = none) (F__law_numbers : Dfn P w K mg base 2 "_law_numbers" 1 m__law_numbers) (F__law_modulus : Dfn P w K mg base 3 "_law_modulus" 1 m__law_modulus) (F__law_draw : Dfn P w K mg base 2 "_law_draw" 1 m__law_draw) (F__law_house : Dfn P w K mg base 6 "_law_house" 2 m__law_house) (F__law_move : Dfn P w K mg base 9 "_law_move" 4 m__law_move) (F__law_given_back : Dfn P w K mg base 10 "_law_given_back" 1 m__law_given_back) : Dfn P w K mg base 11 "law" 1 m_law :=
  dfn_of F hmg (FunD.bindsN F fun _ _ _ _ _ _ us hl => match us, hl with | [_], _ => rfl) (w_law F b_range F__law_numbers F__law_modulus F__law_draw F__law_house F__law_move F__law_given_back)

end G

end

section
set_option Elab.async false
set_option linter.all false
set_option maxRecDepth 100000
set_option maxHeartbeats 4000000
namespace G
open DI PySem
open L2 (atI ixN)
local macro_rules | `(tactic| walk_at "di") => `(tactic| try simp only [wp_seq, wp_exB, wp_bnd, wp_some, wp_none, sAsg, sPar, sRet, sRetN, sDrop, sIf, sNil, sBreak, sCont, sRaise, sAug, sSetI, sAsgT, sFor, eVar, eC, eOp, eUn, eCall, eCB, eTup, eLst, eSl, oNone, oSome, eLm, aNil, aCons, eIf, eChain_r, tVal, bOf, tTru, truD, tAnd, tOr, tNot, eAnd_r, eOr_r, eNot, isN, isNN, D.isNon, tYes, seqI, rng1, rng2,
  Tg.put, setAll, Tg.sl, bnd_ok, bnd_er, bnd_none, exB_ok, exB_er, exB_none, pr_some, pr_none, List.getElem?_cons_zero, List.getElem?_cons_succ, List.set_cons_zero, List.set_cons_succ, List.length_cons, List.length_nil, nxQ_nx, nxQ_rt, nxQ_bk, nxQ_ct, nxQ_xx, fnQ_rt, fnQ_nx, fnQ_xx, lpQ_nx, lpQ_ct, lpQ_bk, lpQ_rt, lpQ_xx, okQ, wp_ite, if_true, reduceCtorEq, Bool.true_eq_false, if_false, decide_eq_true_eq, Bool.false_eq_true, Bool.not_eq_true', decide_eq_false_iff_not, Bool.not_true, Bool.not_false,
  addG_int, addIG_int, subG_int, negG_int, ltG_int, leG_int, gtG_int, geG_int, eqG_int, neG_int, eqG_str, neG_str, eqG_bl, neG_bl, ixG_tup, ixG_fl, lenD_tup, lenD_fl, ixG_r, lenD_r, atI_c0, atI_c1, atI_c2, atI_c3, ixN_2, List.getElem?_concat_length, set_app, if_smP, if_smP2, intG_int, intG_bl, min2_int, max2_int, isiG_non, isiG_int, isiG_bl, isiG_str, isiG_tup, isiG_fl, Ty.sub, modG_ok, divG_ok, mulG_r, mulG_l, powG_10, powG_2, startD, wip, List.map_cons, List.map_nil, List.cons_append, List.nil_append, List.replicate, Nat.sub_self, Nat.zero_le, Nat.reduceLeDiff, Nat.reduceAdd, Nat.reduceSub, Int.reduceNeg, Int.reduceLT, Int.reduceLE, Int.reduceEq, Int.reducePow, Int.reduceMul, Int.reduceAdd, Int.reduceToNat, Nat.reduceLT, Nat.reduceEqDiff, and_self, and_true, true_and, reduceIte, appendG])
local macro_rules | `(tactic| walk_at "ds") => `(tactic| try simp only [wp_seq, wp_exB, wp_bnd, wp_some, wp_none, sAsg, sPar, sRet, sRetN, sDrop, sNil, sBreak, sCont, sRaise, sAug, sSetI, sAsgT, sFor, eVar, eC, eOp, eUn, eCall, eCB, eTup, eLst, eSl, oNone, oSome, eLm, aNil, aCons, eIf, eChain_r, tVal, bOf, tTru, truD, tAnd, tOr, tNot, eAnd_r, eOr_r, eNot, isN, isNN, D.isNon, tYes, seqI, rng1, rng2,
  Tg.put, setAll, Tg.sl, bnd_ok, bnd_er, bnd_none, exB_ok, exB_er, exB_none, pr_some, pr_none, List.getElem?_cons_zero, List.getElem?_cons_succ, List.set_cons_zero, List.set_cons_succ, List.length_cons, List.length_nil, nxQ_nx, nxQ_rt, nxQ_bk, nxQ_ct, nxQ_xx, fnQ_rt, fnQ_nx, fnQ_xx, lpQ_nx, lpQ_ct, lpQ_bk, lpQ_rt, lpQ_xx, okQ, wp_ite, if_true, reduceCtorEq, Bool.true_eq_false, if_false, decide_eq_true_eq, Bool.false_eq_true, Bool.not_eq_true', decide_eq_false_iff_not, Bool.not_true, Bool.not_false,
  addG_int, addIG_int, subG_int, negG_int, ltG_int, leG_int, gtG_int, geG_int, eqG_int, neG_int, eqG_str, neG_str, eqG_bl, neG_bl, ixG_tup, ixG_fl, lenD_tup, lenD_fl, ixG_r, lenD_r, atI_c0, atI_c1, atI_c2, atI_c3, ixN_2, List.getElem?_concat_length, set_app, if_smP, if_smP2, intG_int, intG_bl, min2_int, max2_int, isiG_non, isiG_int, isiG_bl, isiG_str, isiG_tup, isiG_fl, Ty.sub, modG_ok, divG_ok, mulG_r, mulG_l, powG_10, powG_2, startD, wip, List.map_cons, List.map_nil, List.cons_append, List.nil_append, List.replicate, Nat.sub_self, Nat.zero_le, Nat.reduceLeDiff, Nat.reduceAdd, Nat.reduceSub, Int.reduceNeg, Int.reduceLT, Int.reduceLE, Int.reduceEq, Int.reducePow, Int.reduceMul, Int.reduceAdd, Int.reduceToNat, Nat.reduceLT, Nat.reduceEqDiff, and_self, and_true, true_and, reduceIte, appendG])
/-! ### draws -/
def mixed (a b : Int) : Int := ((a * 48271 + b * 69621 + 12345) % 2147483647 * ((a * 48271 + b * 69621 + 12345) % 2147483647 / 65536 + 3) + b) % 2147483647
theorem mixed_eq (a b : Int) (M : Hd) : m__law_mixed [.int a, .int b] M = some (.ok (.int (mixed a b)) M) := by
  have h1 : 0 ≤ (a * 48271 + b * 69621 + 12345) % 2147483647 := Int.emod_nonneg _ (by decide)
  have h2 : (a * 48271 + b * 69621 + 12345) % 2147483647 < 2147483647 := Int.emod_lt_of_pos _ (by decide)
  simp [m__law_mixed, mir, g__law_mixed, startD, sSeq, sAsg, sRet, eOp, eVar, eC, mulG_r, modG_ok, divG_ok]
  rw [mulG_l (by omega)]
  simp [mixed, modG_ok]
theorem mixed_lo (a b : Int) : 0 ≤ mixed a b := Int.emod_nonneg _ (by decide)
theorem mixed_hi (a b : Int) : mixed a b < 2147483647 := Int.emod_lt_of_pos _ (by decide)
/-- numbers below a million -/
def Nums (ds : List D) : Prop := ∀ d ∈ ds, ∃ i : Int, d = .int i ∧ 0 ≤ i ∧ i < 1000000
theorem Nums.add {ds : List D} (h : Nums ds) {i : Int} (h0 : 0 ≤ i) (h1 : i < 1000000) : Nums (ds ++ [.int i]) := fun d hd => by
  rcases List.mem_append.mp hd with hd | hd
  · exact h d hd
  · exact ⟨i, by simpa using hd, h0, h1⟩
theorem mod_lo (a : Int) : 0 ≤ a % 1000000 := Int.emod_nonneg _ (by decide)
theorem mod_hi (a : Int) : a % 1000000 < 1000000 := Int.emod_lt_of_pos _ (by decide)
theorem numbers_ok (ns : List Int) (h : ns.length ≤ 63) : Wp (m__law_numbers [.fl (ns.map D.int)] []) (okQ fun d M => ∃ ds, d = .ref 0 ∧ M = [.lst ds] ∧ Nums ds ∧ ds.length ≤ 4000) := by
  refine wp_mir rfl ?_
  unfold g__law_numbers
  walk_at "di"
  refine wp_forL (fun i r M => ∃ ds a b c, r = [some (.fl (ns.map D.int)), some (.ref 0), a, b, c] ∧ M = [.lst ds] ∧ Nums ds ∧ ds.length ≤ 60 * i) ?_ ?_ ?_
  · rintro i d r M hd ⟨ds, a, b, c, rfl, rfl, hN, hl⟩
    refine ⟨by simp, _, rfl, ?_⟩
    have hi : i < 63 := by
      have := (List.getElem?_eq_some_iff.mp hd).1
      rw [List.length_map] at this
      omega
    obtain ⟨n, hn, rfl⟩ : ∃ n, ns[i]? = some n ∧ d = .int n := by
      rw [List.getElem?_map] at hd
      cases e : ns[i]? with
      | none => rw [e] at hd; cases hd
      | some n => rw [e] at hd; exact ⟨n, rfl, (Option.some.inj hd).symm⟩
    walk_at "di"
    split
    · walk_at "di"
      refine wp_forL (fun j r M => ∃ ds n' c, r = [some (.fl (ns.map D.int)), some (.ref 0), some (.int n), some (.int n'), c] ∧ M = [.lst ds] ∧ Nums ds ∧ ds.length ≤ 60 * i + j) ?_ ?_ ?_
      · rintro j d r M hd ⟨ds, n', c, rfl, rfl, hN, hl⟩
        refine ⟨by simp, _, rfl, ?_⟩
        have hj := (ints_get hd).1
        walk_at "di"
        split
        · walk_at "di"
          rw [if_pos (by have : j < 60 := hj; omega)]
          walk_at "di"
          exact ⟨_, _, _, rfl, rfl, hN.add (mod_lo _) (mod_hi _), by simp; omega⟩
        · walk_at "di"
          exact ⟨_, _, _, rfl, rfl, hN, by omega⟩
      · rintro r M ⟨ds, n', c, rfl, rfl, hN, hl⟩
        refine ⟨by simp, ?_⟩
        rw [lpQ_nx]
        refine ⟨_, _, _, _, rfl, rfl, hN, ?_⟩
        rw [ints_length] at hl
        omega
      · exact ⟨_, _, _, rfl, rfl, hN, by omega⟩
    · walk_at "di"
      rw [if_pos (by omega)]
      walk_at "di"
      refine wp_forL (fun j r M => ∃ ds c, r = [some (.fl (ns.map D.int)), some (.ref 0), some (.int n), b, c] ∧ M = [.lst ds] ∧ Nums ds ∧ ds.length ≤ 60 * i + 1 + j) ?_ ?_ ?_
      · rintro j d r M hd ⟨ds, c, rfl, rfl, hN, hl⟩
        refine ⟨by simp, _, rfl, ?_⟩
        obtain ⟨hj, rfl⟩ := ints_get hd
        walk_at "di"
        rw [mixed_eq]
        walk_at "di"
        rw [mixed_eq]
        walk_at "di"
        rw [if_pos (by have : j < 5 := hj; omega)]
        walk_at "di"
        exact ⟨_, _, rfl, rfl, hN.add (mod_lo _) (mod_hi _), by simp; omega⟩
      · rintro r M ⟨ds, c, rfl, rfl, hN, hl⟩
        refine ⟨by simp, ?_⟩
        rw [lpQ_nx]
        refine ⟨_, _, _, _, rfl, rfl, hN, ?_⟩
        rw [ints_length] at hl
        omega
      · exact ⟨_, _, rfl, rfl, hN.add (mod_lo _) (mod_hi _), by simp; omega⟩
  · rintro r M ⟨ds, a, b, c, rfl, rfl, hN, hl⟩
    refine ⟨by simp, ?_⟩
    walk_at "di"
    refine ⟨ds, rfl, hN, ?_⟩
    simp at hl
    omega
  · exact ⟨[], none, none, none, rfl, rfl, (fun _ h => nomatch h), Nat.zero_le _⟩
theorem Nums.at {ds : List D} (h : Nums ds) {a : Int} (h0 : 0 ≤ a) (h1 : a < ds.length) : ∃ n, atI ds a = some (.int n) ∧ 0 ≤ n ∧ n < 1000000 := by
  have hl : a.toNat < ds.length := by omega
  obtain ⟨n, e, b⟩ := h _ (List.getElem_mem hl)
  exact ⟨n, atI_nn h0 (by rw [List.getElem?_eq_getElem hl, e]), b⟩
/-- the drawing state: numbers first, the cursor second, the rest after -/
def Dr (M R : Hd) : Prop := ∃ ds a, M = .lst ds :: .lst [.ref 0, .int a] :: R ∧ Nums ds ∧ 0 ≤ a
theorem draw_ok {M R : Hd} (h : Dr M R) : Wp (m__law_draw [.ref 1] M) (okQ fun d M1 => ∃ n, d = .int n ∧ 0 ≤ n ∧ n < 1000000 ∧ Dr M1 R) := by
  obtain ⟨ds, a, rfl, hN, ha⟩ := h
  have ha1 : (0 : Int) ≤ a + 1 := by omega
  refine wp_mir rfl ?_
  unfold g__law_draw
  walk_at "di"
  split
  · rename_i hlt
    obtain ⟨n, e, h0, h1⟩ := hN.at ha hlt
    walk_at "di"
    rw [e]
    walk_at "di"
    exact ⟨n, rfl, h0, h1, ds, _, rfl, hN, ha1⟩
  · walk_at "di"
    split
    · rename_i hlt
      obtain ⟨n, e, h0, h1⟩ := hN.at (Int.le_refl 0) hlt
      walk_at "di"
      rw [e]
      walk_at "di"
      rw [mixed_eq]
      walk_at "di"
      rw [mixed_eq]
      walk_at "di"
      exact ⟨_, rfl, mod_lo _, mod_hi _, ds, _, rfl, hN, ha1⟩
    · walk_at "di"
      rw [mixed_eq]
      walk_at "di"
      rw [mixed_eq]
      walk_at "di"
      exact ⟨_, rfl, mod_lo _, mod_hi _, ds, _, rfl, hN, ha1⟩
theorem Dr.len {M R : Hd} (h : Dr M R) : M.length = R.length + 2 := by obtain ⟨ds, a, rfl, _⟩ := h; rfl
theorem Dr.get {M R : Hd} (h : Dr M R) (k : Nat) : M[k + 2]? = R[k]? := by obtain ⟨ds, a, rfl, _⟩ := h; rfl
theorem Dr.set {M R : Hd} (h : Dr M R) (k : Nat) (o : O) : Dr (M.set (k + 2) o) (R.set k o) := by obtain ⟨ds, a, rfl, q⟩ := h; exact ⟨ds, a, rfl, q⟩
theorem Dr.app {M R : Hd} (h : Dr M R) (X : Hd) : Dr (M ++ X) (R ++ X) := by obtain ⟨ds, a, rfl, q⟩ := h; exact ⟨ds, a, rfl, q⟩
theorem get_app {R : Hd} {o : O} : (R ++ [o])[R.length]? = some o := by simp
theorem get_app_l {R X : Hd} {p : Nat} {o : O} (h : R[p]? = some o) : (R ++ X)[p]? = some o := by
  rw [List.getElem?_append_left (List.getElem?_eq_some_iff.mp h).1, h]
theorem get_set {R : Hd} {p : Nat} {o o2 : O} (h : R[p]? = some o) : (R.set p o2)[p]? = some o2 := by
  rw [List.getElem?_set_self (List.getElem?_eq_some_iff.mp h).1]
theorem addG_dr {M R : Hd} (h : Dr M R) {p q : Nat} {a b : List D} (ha : R[p]? = some (.lst a)) (hb : R[q]? = some (.lst b)) (hl : a.length + b.length ≤ 16777216) :
    addG (.ref (p + 2)) (.ref (q + 2)) M = some (.ok (.ref (R.length + 2)) (M ++ [.lst (a ++ b)])) := by
  rw [addG_r, h.get, h.get, ha, hb, h.len]
  exact if_pos hl
theorem all_app {Q : D → Prop} {a b : List D} (ha : ∀ d ∈ a, Q d) (hb : ∀ d ∈ b, Q d) : ∀ d ∈ a ++ b, Q d := fun d hd => (List.mem_append.mp hd).elim (ha d) (hb d)
theorem all_1 {Q : D → Prop} {a : D} (ha : Q a) : ∀ d ∈ [a], Q d := fun d hd => by rw [List.mem_singleton] at hd; subst hd; exact ha
theorem all_2 {Q : D → Prop} {a b : D} (ha : Q a) (hb : Q b) : ∀ d ∈ [a, b], Q d := all_app (a := [a]) (all_1 ha) (all_1 hb)
theorem rng1_ok {n : Int} (h : Sm n) {r : Ev} {M : Hd} : rng1 (eC (.int n)) r M = some (.ok (intsD 0 n.toNat, []) M) := by
  unfold rng1
  simp only [eC, bnd_ok]
  exact if_pos h
/-- a list of draws -/
theorem wp_draws {n : Int} (hn : 0 ≤ n ∧ n < 16777216) {v : Nat} {own : List Nat} {f : EF} {r : Ev} {M R : Hd} {Q : D → Prop}
    (hf : ∀ (k : Int) M R, 0 ≤ k → k < n → Dr M R → Wp (f ((wip r own).set v (some (.int k))) M) (okQ fun d M1 => Q d ∧ Dr M1 R)) (h : Dr M R) :
    Wp (eLc (rng1 (eC (.int n))) (.nm v) tYes f own r M) (okQ fun d M1 => d = .ref (R.length + 2) ∧ ∃ ds, ds.length = n.toNat ∧ (∀ d ∈ ds, Q d) ∧ Dr M1 (R ++ [.lst ds])) := by
  refine wp_eLc ?_
  rw [rng1_ok (by unfold Sm; omega), wp_some]
  dsimp only
  refine wp_lcL (fun i M1 => ∃ acc, Dr M1 (R ++ [.lst acc]) ∧ acc.length = i ∧ ∀ d ∈ acc, Q d) ?_ ?_ ?_
  · rintro i d M1 hd ⟨acc, hD, hl, hq⟩
    obtain ⟨hi, rfl⟩ := ints_get hd
    refine ⟨by simp, _, rfl, ?_⟩
    unfold tYes
    rw [wp_some]
    refine ⟨(fun h => nomatch h), fun _ => ?_⟩
    refine (hf (0 + i) M1 _ (by omega) (by omega) hD).ok ?_
    rintro d M2 ⟨hd, hD2⟩
    refine ⟨acc, ?_, by omega, acc ++ [d], ?_, by simp [hl], ?_⟩
    · rw [h.len, hD2.get]; simp
    · have := hD2.set R.length (.lst (acc ++ [d]))
      rw [h.len]
      simpa using this
    · intro e he
      rcases List.mem_append.mp he with he | he
      · exact hq e he
      · rw [List.mem_singleton] at he; subst he; exact hd
  · rintro M1 ⟨acc, hD, hl, hq⟩
    refine ⟨by simp, ?_⟩
    rw [ints_length] at hl
    exact ⟨by rw [h.len], acc, hl, hq, hD⟩
  · exact ⟨[], h.app _, rfl, (fun _ h => nomatch h)⟩
/-! ### large numbers, moduli, numbers below -/
/-- what inverse_of says -/
def Inv (n m : Nat) (d : D) : Prop := (Nat.gcd n m ≠ 1 ∧ d = .non) ∨ (Nat.gcd n m = 1 ∧ ∃ v : Int, d = .int v ∧ 0 ≤ v ∧ v < m ∧ v * n % m = 1)
theorem inverse_ok {n m : Nat} {M : Hd} (hn : n < m) (h2 : 2 ≤ m) (hm : m < 2 ^ 60) : Wp (m_inverse_of [.int n, .int m] M) (okQ fun d M1 => M1 = M ∧ Inv n m d) := by
  refine wp_mir rfl ?_
  unfold g_inverse_of
  walk_at "di"
  rw [modG_ok (by omega)]
  walk_at "di"
  have e0 : (n : Int) % m = n := Int.emod_eq_of_lt (by omega) (by omega)
  rw [e0]
  refine wp_while (n := m) (fun k r M1 => ∃ (a b : Nat) (x y : Int) (c : Option D), r = [some (.int n), some (.int m), some (.int a), some (.int b), some (.int x), some (.int y), c] ∧ M1 = M ∧ b = k ∧ a ≤ m ∧ b ≤ m ∧ Nat.gcd a b = Nat.gcd n m ∧ (m : Int) ∣ x * n - a ∧ (m : Int) ∣ y * n - b) ?_ ?_
  · rintro k r M1 ⟨a, b, x, y, c, rfl, rfl, hk, ha, hb, hg, hx, hy⟩
    subst hk
    walk_at "di"
    refine ⟨fun hf => ?_, fun ht => ?_⟩
    · have : b = 0 := by omega
      subst this
      rw [Nat.gcd_zero_right] at hg
      by_cases h1 : (a : Int) = 1
      · rw [if_neg (by simpa using h1)]
        walk_at "di"
        rw [modG_ok (by omega)]
        walk_at "di"
        refine .inr ⟨by omega, _, rfl, Int.emod_nonneg _ (by omega), Int.emod_lt_of_pos _ (by omega), ?_⟩
        rw [h1] at hx
        have e1 : x * n % m = 1 := by
          rw [Int.emod_eq_emod_iff_emod_sub_eq_zero.mpr (Int.emod_eq_zero_of_dvd hx)]
          exact Int.emod_eq_of_lt (by omega) (by omega)
        rw [Int.mul_emod, Int.emod_emod, ← Int.mul_emod, e1]
      · rw [if_pos (by simpa using h1)]
        walk_at "di"
        exact .inl ⟨by omega, rfl⟩
    · have hb0 : 0 < b := by omega
      rw [divG_ok (by omega) (by omega)]
      walk_at "di"
      have hq0 : (0 : Int) ≤ (a : Int) / b := Int.ediv_nonneg (by omega) (by omega)
      have hq1 : (a : Int) / b ≤ a := Int.ediv_le_self _ (by omega)
      rw [mulG_l (by omega)]
      walk_at "di"
      rw [mulG_l (by omega)]
      walk_at "di"
      have hmod : (a : Int) - a / b * b = ((a % b : Nat) : Int) := by
        rw [Int.natCast_emod, Int.emod_def, Int.mul_comm]
      refine ⟨a % b, ?_, b, a % b, y, x - a / b * y, _, by rw [hmod], rfl, hb, Nat.le_trans (Nat.mod_le _ _) ha, by rw [Nat.gcd_comm b, ← Nat.gcd_rec, Nat.gcd_comm]; exact hg, hy, ?_⟩
      · exact Nat.mod_lt _ hb0
      · rw [← hmod]
        have e : (x - (a : Int) / b * y) * n - (a - (a : Int) / b * b) = (x * n - a) - (a : Int) / b * (y * n - b) := by
          rw [Int.sub_mul, Int.mul_sub, Int.mul_assoc]
          omega
        rw [e]
        exact Int.dvd_sub hx (Int.dvd_mul_of_dvd_right hy)
  · exact ⟨n, m, 1, 0, none, rfl, rfl, rfl, by omega, Nat.le_refl _, rfl, by simp, by simp⟩
/-- a list of things that draws make, the heap grows -/
theorem wp_makes {n : Int} (hn : 0 ≤ n ∧ n < 16777216) {v : Nat} {own : List Nat} {f : EF} {r : Ev} {M R : Hd} {Q : D → Prop}
    (hf : ∀ (k : Int) M R, 0 ≤ k → k < n → Dr M R → Wp (f ((wip r own).set v (some (.int k))) M) (okQ fun d M1 => Q d ∧ ∃ X, Dr M1 (R ++ X))) {g : EF} (hg : ∀ M, g r M = some (.ok (.int n) M)) (h : Dr M R) :
    Wp (eLc (rng1 g) (.nm v) tYes f own r M) (okQ fun d M1 => d = .ref (R.length + 2) ∧ ∃ ds Y, ds.length = n.toNat ∧ (∀ d ∈ ds, Q d) ∧ Dr M1 (R ++ .lst ds :: Y)) := by
  refine wp_eLc ?_
  have e : rng1 g r M = some (.ok (intsD 0 n.toNat, []) M) := by
    unfold rng1
    rw [hg]
    exact if_sm (by omega)
  rw [e, wp_some]
  dsimp only
  refine wp_lcL (fun i M1 => ∃ acc Y, Dr M1 (R ++ .lst acc :: Y) ∧ acc.length = i ∧ ∀ d ∈ acc, Q d) ?_ ?_ ?_
  · rintro i d M1 hd ⟨acc, Y, hD, hl, hq⟩
    obtain ⟨hi, rfl⟩ := ints_get hd
    refine ⟨by simp, _, rfl, ?_⟩
    unfold tYes
    rw [wp_some]
    refine ⟨(fun h => nomatch h), fun _ => ?_⟩
    refine (hf (0 + i) M1 _ (by omega) (by omega) hD).ok ?_
    rintro d M2 ⟨hd, X, hD2⟩
    rw [List.append_assoc, List.cons_append] at hD2
    refine ⟨acc, ?_, by omega, acc ++ [d], Y ++ X, ?_, by simp [hl], ?_⟩
    · rw [h.len, hD2.get, get_mid]
    · have := hD2.set R.length (.lst (acc ++ [d]))
      rw [h.len]
      rwa [set_mid] at this
    · intro e he
      rcases List.mem_append.mp he with he | he
      · exact hq e he
      · rw [List.mem_singleton] at he; subst he; exact hd
  · rintro M1 ⟨acc, Y, hD, hl, hq⟩
    refine ⟨by simp, ?_⟩
    rw [ints_length] at hl
    exact ⟨by rw [h.len], acc, Y, hl, hq, hD⟩
  · exact ⟨[], [], h.app _, rfl, (fun _ h => nomatch h)⟩
/-- .. the range told by what it comes to -/
theorem wp_makes2 {n : Int} (hn : 0 ≤ n ∧ n < 16777216) {v : Nat} {own : List Nat} {f : EF} {r : Ev} {M0 M R : Hd} {it : IF} {Q : D → Prop}
    (hf : ∀ (k : Int) M R, 0 ≤ k → k < n → Dr M R → Wp (f ((wip r own).set v (some (.int k))) M) (okQ fun d M1 => Q d ∧ ∃ X, Dr M1 (R ++ X))) (e : it r M0 = some (.ok (intsD 0 n.toNat, []) M)) (h : Dr M R) :
    Wp (eLc it (.nm v) tYes f own r M0) (okQ fun d M1 => d = .ref (R.length + 2) ∧ ∃ ds Y, ds.length = n.toNat ∧ (∀ d ∈ ds, Q d) ∧ Dr M1 (R ++ .lst ds :: Y)) := by
  refine wp_eLc ?_
  rw [e, wp_some]
  dsimp only
  refine wp_lcL (fun i M1 => ∃ acc Y, Dr M1 (R ++ .lst acc :: Y) ∧ acc.length = i ∧ ∀ d ∈ acc, Q d) ?_ ?_ ?_
  · rintro i d M1 hd ⟨acc, Y, hD, hl, hq⟩
    obtain ⟨hi, rfl⟩ := ints_get hd
    refine ⟨by simp, _, rfl, ?_⟩
    unfold tYes
    rw [wp_some]
    refine ⟨(fun h => nomatch h), fun _ => ?_⟩
    refine (hf (0 + i) M1 _ (by omega) (by omega) hD).ok ?_
    rintro d M2 ⟨hd, X, hD2⟩
    rw [List.append_assoc, List.cons_append] at hD2
    refine ⟨acc, ?_, by omega, acc ++ [d], Y ++ X, ?_, by simp [hl], ?_⟩
    · rw [h.len, hD2.get, get_mid]
    · have := hD2.set R.length (.lst (acc ++ [d]))
      rw [h.len]
      rwa [set_mid] at this
    · intro e he
      rcases List.mem_append.mp he with he | he
      · exact hq e he
      · rw [List.mem_singleton] at he; subst he; exact hd
  · rintro M1 ⟨acc, Y, hD, hl, hq⟩
    refine ⟨by simp, ?_⟩
    rw [ints_length] at hl
    exact ⟨by rw [h.len], acc, Y, hl, hq, hD⟩
  · exact ⟨[], [], h.app _, rfl, (fun _ h => nomatch h)⟩
theorem draw_eq {M R : Hd} (h : Dr M R) : ∃ n M1, m__law_draw [.ref 1] M = some (.ok (.int n) M1) ∧ 0 ≤ n ∧ n < 1000000 ∧ Dr M1 R := by
  obtain ⟨o, e, q⟩ := draw_ok h
  cases o with
  | ok d M1 =>
    obtain ⟨n, rfl, q⟩ := q
    exact ⟨n, M1, e, q⟩
  | er c M1 => exact q.elim
/-! ### _law_equal answers True of data that are alike -/
def Eqv (M : Hd) : Nat → D → D → Prop
  | _, .non, .non => True
  | _, .bl b, .bl c => b = c
  | _, .int b, .int c => b = c
  | _, .str b, .str c => b = c
  | n + 1, .tup ds, .tup es => ds.length = es.length ∧ es.length < 16777216 ∧ ∀ (i : Nat) d e, ds[i]? = some d → es[i]? = some e → Eqv M n d e
  | n + 1, .ref i, .ref j => ∃ ds es, M[i]? = some (.lst ds) ∧ M[j]? = some (.lst es) ∧ ds.length = es.length ∧ es.length < 16777216 ∧ ∀ (i : Nat) d e, ds[i]? = some d → es[i]? = some e → Eqv M n d e
  | _, _, _ => False
theorem isiG_ref {T : Ty} {i : Nat} {ds : List D} {M : Hd} (h : M[i]? = some (.lst ds)) : isiG T (.ref i) M = some (.ok (.bl (Ty.lst.sub T)) M) := by
  unfold isiG tyD
  dsimp only
  rw [h]
theorem alleq_ok {M : Hd} {k : Nat} {x y : D} {ds es : List D} (hx : itemsD x M = some ds) (hy : itemsD y M = some es) (hl : ds.length = es.length) (hm : es.length < 16777216)
    (h : ∀ (i : Nat) d e, ds[i]? = some d → es[i]? = some e → Wp ((r__law_equal__law_all_equal k).1 [d, e] M) (okQ fun d M1 => M1 = M ∧ d = .bl true)) :
    Wp ((r__law_equal__law_all_equal (k + 1)).2 [x, y] M) (okQ fun d M1 => M1 = M ∧ d = .bl true) := by
  have ix : ∀ {x : D} {ds : List D} {i : Nat} {d : D}, itemsD x M = some ds → ds[i]? = some d → ixG x (.int i) M = some (.ok d M) := by
    intro x ds i d hx hd
    have e : atI ds (i : Int) = some d := L2.atI_nat hd
    cases x with
    | tup es => cases hx; rw [ixG_tup, e]; rfl
    | fl es => cases hx; rw [ixG_fl, e]; rfl
    | ref p =>
      unfold itemsD at hx
      dsimp only at hx
      split at hx
      · rename_i es ho
        cases hx
        rw [ixG_ref ho, e]
        rfl
      · cases hx
    | _ => cases hx
  have ln : lenD y M = some (.ok (.int es.length) M) := by
    cases y with
    | tup es => cases hy; rfl
    | fl es => cases hy; rfl
    | ref p =>
      unfold itemsD at hy
      dsimp only at hy
      split at hy
      · rename_i es ho
        cases hy
        exact lenD_ref ho
      · cases hy
    | _ => cases hy
  show Wp (mir N__law_all_equal.length P__law_all_equal.length (g__law_all_equal (r__law_equal__law_all_equal k).1 (r__law_equal__law_all_equal k).2) [x, y] M) _
  refine wp_mir rfl ?_
  unfold g__law_all_equal
  walk_at "ds"
  rw [ln]
  walk_at "ds"
  rw [if_smP (by omega)]
  refine wp_forL (fun i r M1 => ∃ a, r = [some x, some y, a] ∧ M1 = M) ?_ ?_ ?_
  · rintro i d r M1 hd ⟨a, rfl, rfl⟩
    obtain ⟨hi, rfl⟩ := ints_get hd
    have hi : i < es.length := by simpa using hi
    rw [Int.zero_add]
    refine ⟨by simp, _, rfl, ?_⟩
    walk_at "ds"
    obtain ⟨d, hd⟩ : ∃ d, ds[i]? = some d := ⟨_, List.getElem?_eq_getElem (by omega)⟩
    obtain ⟨e, he⟩ : ∃ e, es[i]? = some e := ⟨_, List.getElem?_eq_getElem hi⟩
    walk_at "di"
    rw [ix hx hd]
    walk_at "di"
    rw [ix hy he]
    walk_at "di"
    refine (h i d e hd he).ok ?_
    rintro _ _ ⟨rfl, rfl⟩
    walk_at "di"
    exact ⟨_, rfl⟩
  · rintro r M1 ⟨a, rfl, rfl⟩
    refine ⟨by simp, ?_⟩
    walk_at "ds"
  · exact ⟨_, rfl, rfl⟩
theorem isiG_of {T t : Ty} {d : D} {M : Hd} (h : tyD d M = some t) : isiG T d M = some (.ok (.bl (t.sub T)) M) := by
  unfold isiG
  rw [h]
theorem eq_ok {M : Hd} : ∀ (n k : Nat) (d e : D), Eqv M n d e → 2 * n + 1 ≤ k → Wp ((r__law_equal__law_all_equal k).1 [d, e] M) (okQ fun d M1 => M1 = M ∧ d = .bl true) := by
  intro n
  induction n with
  | zero =>
    intro k d e h hk
    obtain ⟨k, rfl⟩ : ∃ j, k = j + 1 := ⟨k - 1, by omega⟩
    show Wp (mir N__law_equal.length P__law_equal.length (g__law_equal (r__law_equal__law_all_equal k).1 (r__law_equal__law_all_equal k).2) [d, e] M) _
    refine wp_mir rfl ?_
    unfold g__law_equal
    unfold Eqv at h
    split at h
    · walk_at "di"
    · subst h
      walk_at "di"
      simp
    · subst h
      walk_at "di"
      simp
    · subst h
      walk_at "di"
      simp
    · omega
    · omega
    · exact h.elim
  | succ n ih =>
    intro k d e h hk
    obtain ⟨k, rfl⟩ : ∃ j, k = j + 2 := ⟨k - 2, by omega⟩
    show Wp (mir N__law_equal.length P__law_equal.length (g__law_equal (r__law_equal__law_all_equal (k + 1)).1 (r__law_equal__law_all_equal (k + 1)).2) [d, e] M) _
    refine wp_mir rfl ?_
    unfold g__law_equal
    unfold Eqv at h
    split at h
    · walk_at "di"
    · subst h
      walk_at "di"
      simp
    · subst h
      walk_at "di"
      simp
    · subst h
      walk_at "di"
      simp
    · rename_i n' ds es e1
      cases e1
      obtain ⟨h1, h2, h3⟩ := h
      walk_at "di"
      rw [if_neg (by simp [h1])]
      exact (alleq_ok rfl rfl h1 h2 fun i d e hd he => ih k d e (h3 i d e hd he) (by omega)).ok fun _ _ q => q
    · rename_i n' i j e1
      cases e1
      obtain ⟨ds, es, m1, m2, h1, h2, h3⟩ := h
      walk_at "di"
      rw [isiG_ref m2]
      walk_at "di"
      rw [isiG_ref m1]
      walk_at "di"
      rw [m1]
      walk_at "di"
      rw [m2]
      walk_at "di"
      rw [if_neg (by simp [h1])]
      refine (alleq_ok (ds := ds) (es := es) ?_ ?_ h1 h2 fun i d e hd he => ih k d e (h3 i d e hd he) (by omega)).ok fun _ _ q => q
      · unfold itemsD; dsimp only; rw [m1]
      · unfold itemsD; dsimp only; rw [m2]
    · exact h.elim
/-! ### a comprehension that only makes things -/
theorem wp_comp {M0 M : Hd} {r : Ev} {it : IF} {ds : List D} {gs : Gd} {t : Tg} {c : TF} {f : EF} {own : List Nat} {keep : D → Bool} {val : D → D} (hit : it r M0 = some (.ok (ds, gs) M)) (hgs : ∀ X, Still gs (M ++ X)) (hlen : ds.length < 16777216)
    (hf : ∀ d ∈ ds, ∀ X, ∃ r1, t.put d (wip r own) = some r1 ∧ Wp (c r1 (M ++ X)) (okQ fun b M1 => b = keep d ∧ ∃ Y, M1 = M ++ (X ++ Y) ∧ (b = true → Wp (f r1 M1) (okQ fun x M2 => x = val d ∧ ∃ Z, M2 = M ++ (X ++ Z))))) :
    Wp (eLc it t c f own r M0) (okQ fun d M1 => d = .ref M.length ∧ ∃ Z, M1 = M ++ .lst ((ds.filter keep).map val) :: Z) := by
  refine wp_eLc ?_
  rw [hit, wp_some]
  dsimp only
  refine wp_lcL (fun i M1 => ∃ Z, M1 = M ++ .lst (((ds.take i).filter keep).map val) :: Z) ?_ ?_ ?_
  · rintro i d M1 hd ⟨Z, rfl⟩
    have hi : i < ds.length := (List.getElem?_eq_some_iff.mp hd).1
    obtain ⟨r1, e1, h1⟩ := hf d (List.mem_of_getElem? hd) (.lst (((ds.take i).filter keep).map val) :: Z)
    refine ⟨hgs _, r1, e1, ?_⟩
    refine h1.ok ?_
    rintro b M1 ⟨rfl, Y, rfl, h2⟩
    have htk : ds.take (i + 1) = ds.take i ++ [d] := by
      rw [List.take_succ, hd]
      rfl
    refine ⟨fun hk => ?_, fun hk => ?_⟩
    · refine ⟨Z ++ Y, ?_⟩
      rw [htk, List.filter_append, List.filter_cons, hk]
      simp
    · refine (h2 hk).ok ?_
      rintro x M2 ⟨rfl, Z2, rfl⟩
      refine ⟨((ds.take i).filter keep).map val, ?_, ?_, Z ++ Z2, ?_⟩
      · simp
      · have h3 := List.length_filter_le keep (ds.take i)
        have h4 : (ds.take i).length ≤ ds.length := by rw [List.length_take]; omega
        rw [List.length_map]
        omega
      · rw [htk, List.filter_append, List.filter_cons, hk]
        simp
  · rintro M1 ⟨Z, rfl⟩
    exact ⟨hgs _, rfl, Z, by rw [List.take_length]⟩
  · exact ⟨[], by simp⟩
theorem mapM_int : ∀ (ns : List Int), (ns.map D.int).mapM intOf = some ns
  | [] => rfl
  | n :: ns => by
    rw [List.map_cons, List.mapM_cons, mapM_int ns]
    rfl
theorem mapM_bl : ∀ (ns : List Bool), (ns.map D.bl).mapM blOf = some ns
  | [] => rfl
  | n :: ns => by
    rw [List.map_cons, List.mapM_cons, mapM_bl ns]
    rfl
theorem get_here {M Z : Hd} {o : O} : (M ++ o :: Z)[M.length]? = some o := by simp
theorem get_old {M Z : Hd} {o : O} {i : Nat} (h : M[i]? = some o) : (M ++ Z)[i]? = some o := by
  rw [List.getElem?_append_left (List.getElem?_eq_some_iff.mp h).1, h]
theorem set_here {M Z : Hd} {o o2 : O} : (M ++ o :: Z).set M.length o2 = M ++ o2 :: Z := by simp
theorem seq_ref {f : EF} {r : Ev} {M M1 : Hd} {i : Nat} {ds : List D} (e : f r M = some (.ok (.ref i) M1)) (h : M1[i]? = some (.lst ds)) : seqI f r M = some (.ok (ds, [(i, ds)]) M1) := by
  unfold seqI
  rw [e]
  dsimp only [bnd_ok]
  rw [h]
theorem still_of {M : Hd} {i : Nat} {ds : List D} (h : M[i]? = some (.lst ds)) (X : Hd) : Still [(i, ds)] (M ++ X) := by
  simp only [still_one, still_nil, and_true]
  exact get_old h
theorem listG_ref {M : Hd} {i : Nat} {ds : List D} (h : M[i]? = some (.lst ds)) : listG (.ref i) M = some (.ok (.ref M.length) (M ++ [.lst ds])) := by
  unfold listG itemsD
  dsimp only
  rw [h]
/-! ### lists that grow by what their items say -/
def runF {α N : Type} (f : List α → N → α) (s : List N) : List α := s.foldl (fun cs n => cs ++ [f cs n]) []
section
variable {α N : Type} {f : List α → N → α}
theorem runF_app {s : List N} {n : N} : runF f (s ++ [n]) = runF f s ++ [f (runF f s) n] := by
  unfold runF
  rw [List.foldl_append]
  rfl
theorem runF_take {s : List N} {i : Nat} {n : N} (h : s[i]? = some n) : runF f (s.take (i + 1)) = runF f (s.take i) ++ [f (runF f (s.take i)) n] := by
  rw [List.take_succ, h]
  exact runF_app
theorem runF_len_take (s : List N) : ∀ (i : Nat), i ≤ s.length → (runF f (s.take i)).length = i
  | 0, _ => rfl
  | i + 1, h => by
    rw [runF_take (List.getElem?_eq_getElem (by omega)), List.length_append, runF_len_take s i (by omega)]
    rfl
theorem runF_len (s : List N) : (runF f s).length = s.length := by
  have := runF_len_take (f := f) s s.length (Nat.le_refl _)
  rwa [List.take_length] at this
theorem runF_last {s : List N} (h : 1 ≤ s.length) : ∃ cs p, runF f s = cs ++ [p] := by
  have hl := runF_len (f := f) s
  rcases List.eq_nil_or_concat (runF f s) with e | ⟨cs, p, e⟩
  · rw [e] at hl; simp at hl; omega
  · exact ⟨cs, p, by rw [e, List.concat_eq_append]⟩
end
theorem app_last {M : Hd} {a b : O} : (M ++ [a]).set M.length b = M ++ [b] := by simp
theorem atI_len1 {xs : List D} {v : D} : atI (xs ++ [v]) (((xs ++ [v]).length : Int) - 1) = some v := by
  apply atI_nn (by simp)
  have : ((((xs ++ [v]).length : Nat) : Int) - 1).toNat = xs.length := by simp
  rw [this]
  exact List.getElem?_concat_length
def cg (cs : List Int) (i : Int) : Int := cs.getD i.toNat 0
theorem atI_cs {cs : List Int} {c : Int} (h : 0 ≤ c ∧ c < cs.length) : atI (cs.map D.int) c = some (.int (cg cs c)) := by
  have hl : c.toNat < cs.length := by omega
  apply atI_nn h.1
  unfold cg
  rw [List.getElem?_map, List.getD_eq_getElem?_getD, List.getElem?_eq_getElem hl]
  rfl
def bget (bs : List Bool) (c : Int) : Bool := bs.getD c.toNat false
theorem atI_bits {bs : List Bool} {c : Int} (h : 0 ≤ c ∧ c < bs.length) : atI (bs.map D.bl) c = some (.bl (bget bs c)) := by
  have hl : c.toNat < bs.length := by omega
  apply atI_nn h.1
  unfold bget
  rw [List.getElem?_map, List.getD_eq_getElem?_getD, List.getElem?_eq_getElem hl]
  rfl
theorem cut_to {ds : List D} {a : Int} (h : 0 ≤ a ∧ a ≤ ds.length) : cutD ds none (some a) = ds.take a.toNat := by
  unfold cutD HT.sIx
  dsimp only
  rw [if_neg (by omega), Nat.min_eq_left (by omega), List.drop_zero, Nat.sub_zero]
theorem cut_from {ds : List D} {a : Int} (h : 0 ≤ a ∧ a ≤ ds.length) : cutD ds (some a) none = ds.drop a.toNat := by
  unfold cutD HT.sIx
  dsimp only
  rw [if_neg (by omega), Nat.min_eq_left (by omega)]
  apply List.take_of_length_le
  rw [List.length_drop]
  exact Nat.le_refl _
theorem slice_dr {M R : Hd} (h : Dr M R) {p : Nat} {ds : List D} (e : R[p]? = some (.lst ds)) {l u : Option Int} : sliceD (.ref (p + 2)) l u M = some (.ok (.ref (R.length + 2)) (M ++ [.lst (cutD ds l u)])) := by
  unfold sliceD
  dsimp only
  rw [h.get, e, h.len]
theorem slice_ref {M : Hd} {i : Nat} {ds : List D} (e : M[i]? = some (.lst ds)) {l u : Option Int} : sliceD (.ref i) l u M = some (.ok (.ref M.length) (M ++ [.lst (cutD ds l u)])) := by
  unfold sliceD
  dsimp only
  rw [e]
theorem cut_1 {a : D} {l : List D} : cutD (a :: l) (some 1) none = l := by
  unfold cutD HT.sIx
  dsimp only
  rw [if_neg (by omega), List.length_cons, Nat.min_eq_left (by omega)]
  show List.take _ (List.drop 1 (a :: l)) = l
  rw [List.drop_one, List.tail_cons]
  apply List.take_of_length_le
  have : (1 : Int).toNat = 1 := rfl
  omega
theorem is_number_ok {n m : Int} {M : Hd} : Wp (m_is_number [.int n, .int m] M) (okQ fun d M1 => M1 = M ∧ d = .bl (decide (0 ≤ n ∧ n < m))) := by
  have hi : Wp (m_is_integer [.int n] M) (okQ fun d M1 => M1 = M ∧ d = .bl true) := by
    refine wp_mir rfl ?_
    unfold g_is_integer
    walk_at "di"
  refine wp_mir rfl ?_
  unfold g_is_number
  walk_at "ds"
  refine hi.ok ?_
  rintro _ _ ⟨rfl, rfl⟩
  walk_at "di"
  by_cases h0 : 0 ≤ n
  · rw [if_pos h0]
    simp [h0]
  · rw [if_neg h0]
    simp [h0]
theorem is_number_yes {n m : Int} {M : Hd} (h : 0 ≤ n ∧ n < m) : m_is_number [.int n, .int m] M = some (.ok (.bl true) M) := by
  obtain ⟨o, e, q⟩ := is_number_ok (n := n) (m := m) (M := M)
  cases o with
  | ok d M1 =>
    obtain ⟨rfl, rfl⟩ := q
    rw [e, decide_eq_true h]
  | er c M1 => exact q.elim
theorem numb_get {xs : List D} {i : Nat} {d : D} (h : (numbD xs)[i]? = some d) : ∃ x, xs[i]? = some x ∧ d = .tup [.int i, x] := by
  unfold numbD at h
  rw [List.getElem?_map, List.getElem?_zipIdx] at h
  cases e : xs[i]? with
  | none => rw [e] at h; cases h
  | some x =>
    rw [e] at h
    refine ⟨x, rfl, ?_⟩
    have := Option.some.inj h
    rw [← this]
    simp
theorem getC_str {kvs : List (Str × Int)} {fa : EF} {r : Ev} {M M1 : Hd} {x : Str} {i : Int} (h : fa r M = some (.ok (.str x) M1)) (e : kvs.lookup x = some i) : getC kvs fa r M = some (.ok (.int i) M1) := by
  unfold getC
  rw [h]
  dsimp only [bnd_ok]
  rw [e]
theorem eqv_int {M : Hd} {n : Nat} {i : Int} : Eqv M n (.int i) (.int i) := by cases n <;> unfold Eqv <;> rfl
theorem eqv_bl {M : Hd} {n : Nat} {i : Bool} : Eqv M n (.bl i) (.bl i) := by cases n <;> unfold Eqv <;> rfl
theorem equal_int {M : Hd} {i : Int} : Wp (m__law_equal [.int i, .int i] M) (okQ fun d M1 => M1 = M ∧ d = .bl true) := eq_ok 0 9 _ _ eqv_int (by decide)
theorem equal_bl {M : Hd} {i : Bool} : Wp (m__law_equal [.bl i, .bl i] M) (okQ fun d M1 => M1 = M ∧ d = .bl true) := eq_ok 0 9 _ _ eqv_bl (by decide)
theorem eqv_list {M : Hd} {n i j : Nat} {ds : List D} (hi : M[i]? = some (.lst ds)) (hj : M[j]? = some (.lst ds)) (hl : ds.length < 16777216) (h : ∀ d ∈ ds, Eqv M n d d) : Eqv M (n + 1) (.ref i) (.ref j) := by
  unfold Eqv
  refine ⟨ds, ds, hi, hj, rfl, hl, fun k d e h1 h2 => ?_⟩
  rw [h1] at h2
  cases h2
  exact h d (List.mem_of_getElem? h1)
theorem equal_bits {M : Hd} {i j : Nat} {bs : List Bool} (hi : M[i]? = some (.lst (bs.map D.bl))) (hj : M[j]? = some (.lst (bs.map D.bl))) (hl : bs.length ≤ 120) : Wp (m__law_equal [.ref i, .ref j] M) (okQ fun d M1 => M1 = M ∧ d = .bl true) :=
  eq_ok 1 9 _ _ (eqv_list hi hj (by simp; omega) fun d hd => by
    obtain ⟨c, _, rfl⟩ := List.mem_map.mp hd
    exact eqv_bl) (by decide)
theorem equal_ints {M : Hd} {i j : Nat} {bs : List Int} (hi : M[i]? = some (.lst (bs.map D.int))) (hj : M[j]? = some (.lst (bs.map D.int))) (hl : bs.length < 16777216) : Wp (m__law_equal [.ref i, .ref j] M) (okQ fun d M1 => M1 = M ∧ d = .bl true) :=
  eq_ok 1 9 _ _ (eqv_list hi hj (by simp; omega) fun d hd => by
    obtain ⟨c, _, rfl⟩ := List.mem_map.mp hd
    exact eqv_int) (by decide)
/-! ### the texts of nodes and steps -/
theorem sn_const_input : (("const" : Str) = "input") = False := eq_false (by decide +kernel)
theorem sn_const_sum : (("const" : Str) = "sum") = False := eq_false (by decide +kernel)
theorem sn_const_product : (("const" : Str) = "product") = False := eq_false (by decide +kernel)
theorem sn_const_scaled : (("const" : Str) = "scaled") = False := eq_false (by decide +kernel)
theorem sn_const_choose : (("const" : Str) = "choose") = False := eq_false (by decide +kernel)
theorem sn_const_add : (("const" : Str) = "add") = False := eq_false (by decide +kernel)
theorem sn_const_scale : (("const" : Str) = "scale") = False := eq_false (by decide +kernel)
theorem sn_const_swap : (("const" : Str) = "swap") = False := eq_false (by decide +kernel)
theorem sn_const_table : (("const" : Str) = "table") = False := eq_false (by decide +kernel)
theorem sn_const_cell : (("const" : Str) = "cell") = False := eq_false (by decide +kernel)
theorem sn_input_const : (("input" : Str) = "const") = False := eq_false (by decide +kernel)
theorem sn_input_sum : (("input" : Str) = "sum") = False := eq_false (by decide +kernel)
theorem sn_input_product : (("input" : Str) = "product") = False := eq_false (by decide +kernel)
theorem sn_input_scaled : (("input" : Str) = "scaled") = False := eq_false (by decide +kernel)
theorem sn_input_choose : (("input" : Str) = "choose") = False := eq_false (by decide +kernel)
theorem sn_input_add : (("input" : Str) = "add") = False := eq_false (by decide +kernel)
theorem sn_input_scale : (("input" : Str) = "scale") = False := eq_false (by decide +kernel)
theorem sn_input_swap : (("input" : Str) = "swap") = False := eq_false (by decide +kernel)
theorem sn_input_table : (("input" : Str) = "table") = False := eq_false (by decide +kernel)
theorem sn_input_cell : (("input" : Str) = "cell") = False := eq_false (by decide +kernel)
theorem sn_sum_const : (("sum" : Str) = "const") = False := eq_false (by decide +kernel)
theorem sn_sum_input : (("sum" : Str) = "input") = False := eq_false (by decide +kernel)
theorem sn_sum_product : (("sum" : Str) = "product") = False := eq_false (by decide +kernel)
theorem sn_sum_scaled : (("sum" : Str) = "scaled") = False := eq_false (by decide +kernel)
theorem sn_sum_choose : (("sum" : Str) = "choose") = False := eq_false (by decide +kernel)
theorem sn_sum_add : (("sum" : Str) = "add") = False := eq_false (by decide +kernel)
theorem sn_sum_scale : (("sum" : Str) = "scale") = False := eq_false (by decide +kernel)
theorem sn_sum_swap : (("sum" : Str) = "swap") = False := eq_false (by decide +kernel)
theorem sn_sum_table : (("sum" : Str) = "table") = False := eq_false (by decide +kernel)
theorem sn_sum_cell : (("sum" : Str) = "cell") = False := eq_false (by decide +kernel)
theorem sn_product_const : (("product" : Str) = "const") = False := eq_false (by decide +kernel)
theorem sn_product_input : (("product" : Str) = "input") = False := eq_false (by decide +kernel)
theorem sn_product_sum : (("product" : Str) = "sum") = False := eq_false (by decide +kernel)
theorem sn_product_scaled : (("product" : Str) = "scaled") = False := eq_false (by decide +kernel)
theorem sn_product_choose : (("product" : Str) = "choose") = False := eq_false (by decide +kernel)
theorem sn_product_add : (("product" : Str) = "add") = False := eq_false (by decide +kernel)
theorem sn_product_scale : (("product" : Str) = "scale") = False := eq_false (by decide +kernel)
theorem sn_product_swap : (("product" : Str) = "swap") = False := eq_false (by decide +kernel)
theorem sn_product_table : (("product" : Str) = "table") = False := eq_false (by decide +kernel)
theorem sn_product_cell : (("product" : Str) = "cell") = False := eq_false (by decide +kernel)
theorem sn_scaled_const : (("scaled" : Str) = "const") = False := eq_false (by decide +kernel)
theorem sn_scaled_input : (("scaled" : Str) = "input") = False := eq_false (by decide +kernel)
theorem sn_scaled_sum : (("scaled" : Str) = "sum") = False := eq_false (by decide +kernel)
theorem sn_scaled_product : (("scaled" : Str) = "product") = False := eq_false (by decide +kernel)
theorem sn_scaled_choose : (("scaled" : Str) = "choose") = False := eq_false (by decide +kernel)
theorem sn_scaled_add : (("scaled" : Str) = "add") = False := eq_false (by decide +kernel)
theorem sn_scaled_scale : (("scaled" : Str) = "scale") = False := eq_false (by decide +kernel)
theorem sn_scaled_swap : (("scaled" : Str) = "swap") = False := eq_false (by decide +kernel)
theorem sn_scaled_table : (("scaled" : Str) = "table") = False := eq_false (by decide +kernel)
theorem sn_scaled_cell : (("scaled" : Str) = "cell") = False := eq_false (by decide +kernel)
theorem sn_choose_const : (("choose" : Str) = "const") = False := eq_false (by decide +kernel)
theorem sn_choose_input : (("choose" : Str) = "input") = False := eq_false (by decide +kernel)
theorem sn_choose_sum : (("choose" : Str) = "sum") = False := eq_false (by decide +kernel)
theorem sn_choose_product : (("choose" : Str) = "product") = False := eq_false (by decide +kernel)
theorem sn_choose_scaled : (("choose" : Str) = "scaled") = False := eq_false (by decide +kernel)
theorem sn_choose_add : (("choose" : Str) = "add") = False := eq_false (by decide +kernel)
theorem sn_choose_scale : (("choose" : Str) = "scale") = False := eq_false (by decide +kernel)
theorem sn_choose_swap : (("choose" : Str) = "swap") = False := eq_false (by decide +kernel)
theorem sn_choose_table : (("choose" : Str) = "table") = False := eq_false (by decide +kernel)
theorem sn_choose_cell : (("choose" : Str) = "cell") = False := eq_false (by decide +kernel)
theorem sn_add_const : (("add" : Str) = "const") = False := eq_false (by decide +kernel)
theorem sn_add_input : (("add" : Str) = "input") = False := eq_false (by decide +kernel)
theorem sn_add_sum : (("add" : Str) = "sum") = False := eq_false (by decide +kernel)
theorem sn_add_product : (("add" : Str) = "product") = False := eq_false (by decide +kernel)
theorem sn_add_scaled : (("add" : Str) = "scaled") = False := eq_false (by decide +kernel)
theorem sn_add_choose : (("add" : Str) = "choose") = False := eq_false (by decide +kernel)
theorem sn_add_scale : (("add" : Str) = "scale") = False := eq_false (by decide +kernel)
theorem sn_add_swap : (("add" : Str) = "swap") = False := eq_false (by decide +kernel)
theorem sn_add_table : (("add" : Str) = "table") = False := eq_false (by decide +kernel)
theorem sn_add_cell : (("add" : Str) = "cell") = False := eq_false (by decide +kernel)
theorem sn_scale_const : (("scale" : Str) = "const") = False := eq_false (by decide +kernel)
theorem sn_scale_input : (("scale" : Str) = "input") = False := eq_false (by decide +kernel)
theorem sn_scale_sum : (("scale" : Str) = "sum") = False := eq_false (by decide +kernel)
theorem sn_scale_product : (("scale" : Str) = "product") = False := eq_false (by decide +kernel)
theorem sn_scale_scaled : (("scale" : Str) = "scaled") = False := eq_false (by decide +kernel)
theorem sn_scale_choose : (("scale" : Str) = "choose") = False := eq_false (by decide +kernel)
theorem sn_scale_add : (("scale" : Str) = "add") = False := eq_false (by decide +kernel)
theorem sn_scale_swap : (("scale" : Str) = "swap") = False := eq_false (by decide +kernel)
theorem sn_scale_table : (("scale" : Str) = "table") = False := eq_false (by decide +kernel)
theorem sn_scale_cell : (("scale" : Str) = "cell") = False := eq_false (by decide +kernel)
theorem sn_swap_const : (("swap" : Str) = "const") = False := eq_false (by decide +kernel)
theorem sn_swap_input : (("swap" : Str) = "input") = False := eq_false (by decide +kernel)
theorem sn_swap_sum : (("swap" : Str) = "sum") = False := eq_false (by decide +kernel)
theorem sn_swap_product : (("swap" : Str) = "product") = False := eq_false (by decide +kernel)
theorem sn_swap_scaled : (("swap" : Str) = "scaled") = False := eq_false (by decide +kernel)
theorem sn_swap_choose : (("swap" : Str) = "choose") = False := eq_false (by decide +kernel)
theorem sn_swap_add : (("swap" : Str) = "add") = False := eq_false (by decide +kernel)
theorem sn_swap_scale : (("swap" : Str) = "scale") = False := eq_false (by decide +kernel)
theorem sn_swap_table : (("swap" : Str) = "table") = False := eq_false (by decide +kernel)
theorem sn_swap_cell : (("swap" : Str) = "cell") = False := eq_false (by decide +kernel)
theorem sn_table_const : (("table" : Str) = "const") = False := eq_false (by decide +kernel)
theorem sn_table_input : (("table" : Str) = "input") = False := eq_false (by decide +kernel)
theorem sn_table_sum : (("table" : Str) = "sum") = False := eq_false (by decide +kernel)
theorem sn_table_product : (("table" : Str) = "product") = False := eq_false (by decide +kernel)
theorem sn_table_scaled : (("table" : Str) = "scaled") = False := eq_false (by decide +kernel)
theorem sn_table_choose : (("table" : Str) = "choose") = False := eq_false (by decide +kernel)
theorem sn_table_add : (("table" : Str) = "add") = False := eq_false (by decide +kernel)
theorem sn_table_scale : (("table" : Str) = "scale") = False := eq_false (by decide +kernel)
theorem sn_table_swap : (("table" : Str) = "swap") = False := eq_false (by decide +kernel)
theorem sn_table_cell : (("table" : Str) = "cell") = False := eq_false (by decide +kernel)
theorem sn_cell_const : (("cell" : Str) = "const") = False := eq_false (by decide +kernel)
theorem sn_cell_input : (("cell" : Str) = "input") = False := eq_false (by decide +kernel)
theorem sn_cell_sum : (("cell" : Str) = "sum") = False := eq_false (by decide +kernel)
theorem sn_cell_product : (("cell" : Str) = "product") = False := eq_false (by decide +kernel)
theorem sn_cell_scaled : (("cell" : Str) = "scaled") = False := eq_false (by decide +kernel)
theorem sn_cell_choose : (("cell" : Str) = "choose") = False := eq_false (by decide +kernel)
theorem sn_cell_add : (("cell" : Str) = "add") = False := eq_false (by decide +kernel)
theorem sn_cell_scale : (("cell" : Str) = "scale") = False := eq_false (by decide +kernel)
theorem sn_cell_swap : (("cell" : Str) = "swap") = False := eq_false (by decide +kernel)
theorem sn_cell_table : (("cell" : Str) = "table") = False := eq_false (by decide +kernel)
local macro_rules | `(tactic| walk_at "sx") => `(tactic| try simp only [wp_seq, Int.cast_ofNat_Int, or_false, false_or, decide_false, decide_true, Bool.not_false, Bool.not_true, eq_self_iff_true, sn_const_input, sn_const_sum, sn_const_product, sn_const_scaled, sn_const_choose, sn_const_add, sn_const_scale, sn_const_swap, sn_const_table, sn_const_cell, sn_input_const, sn_input_sum, sn_input_product, sn_input_scaled, sn_input_choose, sn_input_add, sn_input_scale, sn_input_swap, sn_input_table, sn_input_cell, sn_sum_const, sn_sum_input, sn_sum_product, sn_sum_scaled, sn_sum_choose, sn_sum_add, sn_sum_scale, sn_sum_swap, sn_sum_table, sn_sum_cell, sn_product_const, sn_product_input, sn_product_sum, sn_product_scaled, sn_product_choose, sn_product_add, sn_product_scale, sn_product_swap, sn_product_table, sn_product_cell, sn_scaled_const, sn_scaled_input, sn_scaled_sum, sn_scaled_product, sn_scaled_choose, sn_scaled_add, sn_scaled_scale, sn_scaled_swap, sn_scaled_table, sn_scaled_cell, sn_choose_const, sn_choose_input, sn_choose_sum, sn_choose_product, sn_choose_scaled, sn_choose_add, sn_choose_scale, sn_choose_swap, sn_choose_table, sn_choose_cell, sn_add_const, sn_add_input, sn_add_sum, sn_add_product, sn_add_scaled, sn_add_choose, sn_add_scale, sn_add_swap, sn_add_table, sn_add_cell, sn_scale_const, sn_scale_input, sn_scale_sum, sn_scale_product, sn_scale_scaled, sn_scale_choose, sn_scale_add, sn_scale_swap, sn_scale_table, sn_scale_cell, sn_swap_const, sn_swap_input, sn_swap_sum, sn_swap_product, sn_swap_scaled, sn_swap_choose, sn_swap_add, sn_swap_scale, sn_swap_table, sn_swap_cell, sn_table_const, sn_table_input, sn_table_sum, sn_table_product, sn_table_scaled, sn_table_choose, sn_table_add, sn_table_scale, sn_table_swap, sn_table_cell, sn_cell_const, sn_cell_input, sn_cell_sum, sn_cell_product, sn_cell_scaled, sn_cell_choose, sn_cell_add, sn_cell_scale, sn_cell_swap, sn_cell_table, wp_exB, wp_bnd, wp_some, wp_none, sAsg, sPar, sRet, sRetN, sDrop, sIf, sNil, sBreak, sCont, sRaise, sAug, sSetI, sAsgT, sFor, eVar, eC, eOp, eUn, eCall, eCB, eTup, eLst, eSl, oNone, oSome, eLm, aNil, aCons, eIf, eChain_r, tVal, bOf, tTru, truD, tAnd, tOr, tNot, eAnd_r, eOr_r, eNot, isN, isNN, D.isNon, tYes, seqI, rng1, rng2,
  Tg.put, setAll, Tg.sl, bnd_ok, bnd_er, bnd_none, exB_ok, exB_er, exB_none, pr_some, pr_none, List.getElem?_cons_zero, List.getElem?_cons_succ, List.set_cons_zero, List.set_cons_succ, List.length_cons, List.length_nil, nxQ_nx, nxQ_rt, nxQ_bk, nxQ_ct, nxQ_xx, fnQ_rt, fnQ_nx, fnQ_xx, lpQ_nx, lpQ_ct, lpQ_bk, lpQ_rt, lpQ_xx, okQ, wp_ite, if_true, reduceCtorEq, Bool.true_eq_false, if_false, decide_eq_true_eq, Bool.false_eq_true, Bool.not_eq_true', decide_eq_false_iff_not, Bool.not_true, Bool.not_false,
  addG_int, addIG_int, subG_int, negG_int, ltG_int, leG_int, gtG_int, geG_int, eqG_int, neG_int, eqG_str, neG_str, eqG_bl, neG_bl, ixG_tup, ixG_fl, lenD_tup, lenD_fl, ixG_r, lenD_r, atI_c0, atI_c1, atI_c2, atI_c3, ixN_2, List.getElem?_concat_length, set_app, if_smP, if_smP2, intG_int, intG_bl, min2_int, max2_int, isiG_non, isiG_int, isiG_bl, isiG_str, isiG_tup, isiG_fl, Ty.sub, modG_ok, divG_ok, mulG_r, mulG_l, powG_10, powG_2, startD, wip, List.map_cons, List.map_nil, List.cons_append, List.nil_append, List.replicate, Nat.sub_self, Nat.zero_le, Nat.reduceLeDiff, Nat.reduceAdd, Nat.reduceSub, Int.reduceNeg, Int.reduceLT, Int.reduceLE, Int.reduceEq, Int.reducePow, Int.reduceMul, Int.reduceAdd, Int.reduceToNat, Nat.reduceLT, Nat.reduceEqDiff, and_self, and_true, true_and, reduceIte, appendG])

def Itm (d : D) : Prop := d.flat = true ∨ ∃ l, d = .tup l
def numB (n : Int) : D → Bool
  | .int i => decide (0 ≤ i ∧ i < n)
  | _ => false
theorem wp_eq {α : Type} {x : Option α} {o : α} (h : Wp x (fun o' => o' = o)) : x = some o := by
  obtain ⟨o', e, rfl⟩ := h
  exact e
theorem is_number_itm {d : D} {n : Int} {M : Hd} (hf : Itm d) : m_is_number [d, .int n] M = some (.ok (.bl (numB n d)) M) := by
  have no : ∀ d, m_is_integer [d] M = some (.ok (.bl false) M) → m_is_number [d, .int n] M = some (.ok (.bl false) M) := fun d e => by
    refine wp_eq ?_
    refine wp_mir rfl ?_
    unfold g_is_number
    walk_at "ds"
    rw [e]
    walk_at "di"
  have ni : ∀ d, (Wp (g_is_integer (startD N_is_integer.length [d]) M) (fnQ fun o => o = .ok (.bl false) M)) → m_is_integer [d] M = some (.ok (.bl false) M) := fun d h => wp_eq (wp_mir rfl h)
  cases d with
  | int i =>
    obtain ⟨o, e, q⟩ := is_number_ok (n := i) (m := n) (M := M)
    cases o with
    | ok d M1 =>
      obtain ⟨rfl, rfl⟩ := q
      exact e
    | er c M1 => exact q.elim
  | bl b => exact no _ (ni _ (by unfold g_is_integer; walk_at "di"))
  | non => exact no _ (ni _ (by unfold g_is_integer; walk_at "di"))
  | str s => exact no _ (ni _ (by unfold g_is_integer; walk_at "di"))
  | tup l => exact no _ (ni _ (by unfold g_is_integer; walk_at "di"))
  | fl l => rcases hf with h | ⟨l, h⟩ <;> cases h
  | ref i => rcases hf with h | ⟨l, h⟩ <;> cases h
def numL (lo hi : Int) : D → Bool
  | .int i => decide (lo ≤ i ∧ i ≤ hi)
  | _ => false
theorem numL_B {n : Int} {d : D} : numL 0 (n - 1) d = numB n d := by
  cases d with
  | int i =>
    simp only [numL, numB]
    by_cases h : 0 ≤ i ∧ i < n
    · rw [decide_eq_true h, decide_eq_true (by omega)]
    · rw [decide_eq_false h, decide_eq_false (by omega)]
  | _ => rfl
theorem numB_iff {n : Int} {d : D} : numB n d = true ↔ ∃ i, d = .int i ∧ 0 ≤ i ∧ i < n := by
  cases d with
  | int i => simp [numB]
  | _ => simp [numB]
def NdeD (M : Hd) (d : D) : Prop := (∃ es, d = .tup es ∧ (∀ e ∈ es, Itm e) ∧ es.length ≤ 6) ∨ d.flat = true ∨ ∃ i es, d = .ref i ∧ M[i]? = some (.lst es)
theorem NdeD.app {M X : Hd} {d : D} (h : NdeD M d) : NdeD (M ++ X) d := by
  rcases h with h | h | ⟨i, es, h1, h2⟩
  · exact .inl h
  · exact .inr (.inl h)
  · exact .inr (.inr ⟨i, es, h1, get_old h2⟩)
theorem getC_any {kvs : List (Str × Int)} {fa : EF} {r : Ev} {M M1 : Hd} {x : Str} (h : fa r M = some (.ok (.str x) M1)) : getC kvs fa r M = some (.ok (match kvs.lookup x with | some i => .int i | none => .non) M1) := by
  unfold getC
  rw [h]
  rfl
theorem neG_non {n : Int} {M : Hd} : neG .non (.int n) M = some (.ok (.bl true) M) := rfl
theorem tyD_nde {M : Hd} {d : D} (h : NdeD M d) : (∃ es, d = .tup es) ∨ ∃ t, tyD d M = some t ∧ t.sub .tup = false := by
  rcases h with ⟨es, rfl, _⟩ | h | ⟨i, es, rfl, h2⟩
  · exact .inl ⟨es, rfl⟩
  · cases d with
    | non => exact .inr ⟨.non, rfl, rfl⟩
    | bl b => exact .inr ⟨.bl, rfl, rfl⟩
    | int b => exact .inr ⟨.int, rfl, rfl⟩
    | str b => exact .inr ⟨.str, rfl, rfl⟩
    | _ => cases h
  · refine .inr ⟨.lst, ?_, rfl⟩
    unfold tyD
    dsimp only
    rw [h2]
theorem ty_itm {M : Hd} {d : D} (h : Itm d) : (∃ x, d = .str x) ∨ ∃ t, tyD d M = some t ∧ t.sub .str = false := by
  rcases h with h | ⟨l, rfl⟩
  · cases d with
    | non => exact .inr ⟨.non, rfl, rfl⟩
    | bl b => exact .inr ⟨.bl, rfl, rfl⟩
    | int b => exact .inr ⟨.int, rfl, rfl⟩
    | str b => exact .inl ⟨b, rfl⟩
    | _ => cases h
  · exact .inr ⟨.tup, rfl, rfl⟩
theorem tv_op {g : G2} {fa fb : EF} {r : Ev} {M : Hd} : tVal (eOp g fa fb) r M = bnd (bnd (fa r M) fun x M1 => bnd (fb r M1) fun y M2 => g x y M2) bOf := rfl
theorem all1 {f : D → Bool} {a : D} : [a].all f = f a := by simp
theorem all2 {f : D → Bool} {a b : D} : [a, b].all f = (f a && f b) := by simp
theorem add_tup {a b : List D} {M : Hd} (h : a.length + b.length ≤ 16777216) : addG (.tup a) (.tup b) M = some (.ok (.tup (a ++ b)) M) := by
  unfold addG
  dsimp only
  exact if_pos h
theorem atI_any {l : List D} {j : Int} (hj : 0 ≤ j ∧ j < l.length) : ∃ d, d ∈ l ∧ atI l j = some d := by
  have h : j.toNat < l.length := by omega
  exact ⟨l[j.toNat], List.getElem_mem h, atI_nn hj.1 (List.getElem?_eq_getElem h)⟩
theorem wp_if' {t : TF} {f g : SF} {r : Ev} {M : Hd} {Q : Fl × Hd → Prop} {b : Bool} (h : t r M = some (.ok b M)) (hf : b = true → Wp (f r M) Q) (hg : b = false → Wp (g r M) Q) : Wp (sIf t f g r M) Q := by
  unfold sIf
  rw [h, exB_ok]
  cases b with
  | true => exact hf rfl
  | false => exact hg rfl
theorem wp_nil {g : SF} {r : Ev} {M : Hd} {Q : Fl × Hd → Prop} (h : Wp (g r M) Q) : Wp (sNil r M) (nxQ g Q) := by
  unfold sNil
  rw [wp_some, nxQ_nx]
  exact h
theorem nde_tup {M : Hd} {es : List D} (h : ∀ e ∈ es, Itm e) (hl : es.length ≤ 6) : NdeD M (.tup es) := .inl ⟨es, rfl, h, hl⟩
theorem dr1 {M R X A : Hd} (h : Dr M (R ++ X)) : Dr (M ++ A) (R ++ (X ++ A)) := by rw [← List.append_assoc]; exact h.app _
def SrcD (M : Hd) (S : D) : Prop := (∃ ds, S = .tup ds ∧ (∀ d ∈ ds, NdeD M d) ∧ ds.length ≤ 1000) ∨ ∃ i ds, S = .ref i ∧ M[i]? = some (.lst ds)
theorem rep_ref {M : Hd} {i : Nat} {ds : List D} {k : Int} (h : M[i]? = some (.lst ds)) (hk : 0 ≤ k ∧ k ≤ 1000) (hl : ds.length ≤ 10) : repG (.ref i) (.int k) M = some (.ok (.ref M.length) (M ++ [.lst (List.replicate k.toNat ds).flatten])) := by
  unfold repG
  dsimp only
  rw [h]
  dsimp only
  refine if_pos ⟨hk.1, by omega, ?_⟩
  have : ds.length * k.toNat ≤ 10 * 1000 := Nat.mul_le_mul hl (by omega)
  omega

theorem wp_eq' {x : Option (Fl × Hd)} {o : Fl × Hd} (h : Wp x (fun o' => o' = o)) : x = some o := by
  obtain ⟨o', e, rfl⟩ := h
  exact e
/-! ### primes -/
def Prm (n : Int) : Prop := 2 ≤ n ∧ ∀ d, 2 ≤ d → d * d ≤ n → n % d ≠ 0
/-- a bool that says Q, the heap as it was -/
def bq (M : Hd) (Q : Prop) : Rs D → Prop := okQ fun d M1 => M1 = M ∧ ∃ b, d = .bl b ∧ (b = true ↔ Q)
theorem even_of {n d : Int} (hd : d % 2 = 0) (h : n % d = 0) : n % 2 = 0 := by
  have a : (2 : Int) ∣ d := Int.dvd_of_emod_eq_zero hd
  exact Int.emod_eq_zero_of_dvd (Int.dvd_trans a (Int.dvd_of_emod_eq_zero h))
theorem sq_ge {d n : Int} (h : 2 ≤ d) (h2 : d * d ≤ n) : 2 * d ≤ n := Int.le_trans (Int.mul_le_mul_of_nonneg_right h (by omega)) h2
theorem sq_le {d e : Int} (h : d ≤ e) (h2 : 0 ≤ d) : d * d ≤ e * e := Int.mul_le_mul h h h2 (by omega)
theorem is_prime_ok {n : Int} {M : Hd} (h : n < 2000000000) : Wp (m_is_prime [.int n] M) (bq M (Prm n)) := by
  refine wp_mir rfl ?_
  unfold g_is_prime bq
  walk_at "di"
  split
  · exact ⟨false, rfl, by simp [Prm]; omega⟩
  · walk_at "di"
    split
    · walk_at "di"
      refine ⟨_, rfl, ?_⟩
      rename_i h2 h0
      simp only [decide_eq_true_eq, Prm]
      constructor
      · rintro rfl
        refine ⟨by omega, fun d h1 h3 => ?_⟩
        have : 2 * 2 ≤ d * d := Int.mul_le_mul h1 h1 (by decide) (by omega)
        omega
      · rintro ⟨h1, h3⟩
        apply Classical.byContradiction
        intro hne
        exact h3 2 (by omega) (by omega) h0
    · walk_at "di"
      rename_i h2 h0
      refine wp_while (n := (n + 2).toNat) (fun k r M1 => ∃ d, r = [some (.int n), some (.int d)] ∧ M1 = M ∧ 3 ≤ d ∧ d % 2 = 1 ∧ d ≤ n + 2 ∧ k + d = n + 5 ∧ ∀ e, 2 ≤ e → e < d → n % e ≠ 0) ?_ ?_
      · rintro k r M1 ⟨d, rfl, rfl, h3, hodd, hdn, hk, hno⟩
        walk_at "di"
        rw [mulG_l (by omega)]
        walk_at "di"
        refine ⟨fun hf => ?_, fun ht => ?_⟩
        · refine ⟨true, rfl, fun _ => ⟨by omega, fun e h1 he => ?_⟩, fun _ => rfl⟩
          apply hno e h1
          apply Classical.byContradiction
          intro hge
          have := sq_le (Int.not_lt.mp hge) (by omega)
          omega
        · have hdd := sq_ge (by omega) ht
          rw [modG_ok (by omega)]
          walk_at "di"
          split
          · rename_i hz
            refine ⟨false, rfl, by simp, fun hp => ?_⟩
            exact (hp.2 d (by omega) ht hz).elim
          · rename_i hz
            refine ⟨k - 2, by omega, d + 2, rfl, by omega, by omega, by omega, by omega, fun e h1 he => ?_⟩
            by_cases h5 : e < d
            · exact hno e h1 h5
            · by_cases h6 : e = d
              · subst h6; exact hz
              · have h7 : e % 2 = 0 := by omega
                exact fun h8 => h0 (even_of h7 h8)
      · refine ⟨3, rfl, rfl, by decide, by decide, by omega, by omega, fun e h1 h3 => ?_⟩
        have : e = 2 := by omega
        subst this
        exact h0
theorem no_div {m : Int} {c : Nat} (hm : 2 ≤ m) (hc : m < (c : Int) * c) (h : (List.range c).all (fun d => decide (d < 2) || decide (m % (d : Int) ≠ 0)) = true) : Prm m := by
  refine ⟨hm, fun d h2 hd hz => ?_⟩
  have hdc : d < c := by
    apply Classical.byContradiction
    intro hge
    have := sq_le (Int.not_lt.mp hge) (by omega)
    omega
  have := List.all_eq_true.mp h d.toNat (List.mem_range.mpr (by omega))
  rw [Int.toNat_of_nonneg (by omega)] at this
  simp only [Bool.or_eq_true, decide_eq_true_eq] at this
  rcases this with h | h
  · omega
  · exact h hz
theorem eight_prm {m : Int} (hm : m ∈ ([2, 3, 5, 7, 11, 13, 101, 999999937] : List Int)) : Prm m := by
  simp only [List.mem_cons, List.mem_nil_iff, or_false] at hm
  rcases hm with rfl | rfl | rfl | rfl | rfl | rfl | rfl | rfl
  · exact no_div (c := 2) (by decide) (by decide) (by decide +kernel)
  · exact no_div (c := 2) (by decide) (by decide) (by decide +kernel)
  · exact no_div (c := 3) (by decide) (by decide) (by decide +kernel)
  · exact no_div (c := 3) (by decide) (by decide) (by decide +kernel)
  · exact no_div (c := 4) (by decide) (by decide) (by decide +kernel)
  · exact no_div (c := 4) (by decide) (by decide) (by decide +kernel)
  · exact no_div (c := 11) (by decide) (by decide) (by decide +kernel)
  · exact no_div (c := 31623) (by decide) (by decide) (by decide +kernel)
/-! ### polynomials that are 1 at one index -/
def aL (p x i : Int) : Nat → Int
  | 0 => 1
  | n + 1 => if (n : Int) = i then aL p x i n else aL p x i n * (x - n) % p
theorem aL_bd {p x i : Int} (hp : 2 ≤ p) (n : Nat) : 0 ≤ aL p x i n ∧ aL p x i n < p := by
  induction n with
  | zero => unfold aL; omega
  | succ n ih =>
    unfold aL
    split
    · exact ih
    · exact ⟨Int.emod_nonneg _ (by omega), Int.emod_lt_of_pos _ (by omega)⟩
theorem aL_zero {p x i : Int} (hp : 2 ≤ p) (hx : 0 ≤ x) (hxi : x ≠ i) {n : Nat} (hn : x < n) : aL p x i n = 0 := by
  induction n with
  | zero => omega
  | succ n ih =>
    unfold aL
    by_cases h : x < n
    · rw [ih h]
      split
      · rfl
      · rw [Int.zero_mul]; rfl
    · have : x = n := by omega
      subst this
      rw [if_neg hxi, Int.sub_self, Int.mul_zero]
      rfl
/-- powers by squaring -/
def pwS (p : Int) : Nat → Int → Int → Int → Int
  | 0, _, _, r => r
  | k + 1, b, e, r => pwS p k (b * b % p) (e / 2) (if e % 2 = 1 then r * b % p else r)
theorem pwS_bd {p : Int} (hp : 2 ≤ p) : ∀ (k : Nat) (b e r : Int), 0 ≤ r → r < p → 0 ≤ pwS p k b e r ∧ pwS p k b e r < p := by
  intro k
  induction k with
  | zero => intro b e r h0 h1; exact ⟨h0, h1⟩
  | succ k ih =>
    intro b e r h0 h1
    unfold pwS
    refine ih _ _ _ ?_ ?_
    · split
      · exact Int.emod_nonneg _ (by omega)
      · exact h0
    · split
      · exact Int.emod_lt_of_pos _ (by omega)
      · exact h1
def pw (p b : Int) : Int := pwS p 40 b (p - 2) 1
theorem pw_bd {p : Int} (hp : 2 ≤ p) (b : Int) : 0 ≤ pw p b ∧ pw p b < p := pwS_bd hp _ _ _ _ (by decide) (by omega)
def Good (p : Int) (c : Nat) : Prop := 2 ≤ p ∧ p < 1099511627776 ∧ c ≤ 40 ∧ ∀ i, i < c → pw p (aL p i i c) * aL p i i c % p = 1
/-- the weight of the index i at x -/
def Wt (p x : Int) (c i : Nat) : Int := aL p x i c * pw p (aL p i i c) % p
theorem Wt_bd {p x : Int} {c i : Nat} (hp : 2 ≤ p) : 0 ≤ Wt p x c i ∧ Wt p x c i < p := ⟨Int.emod_nonneg _ (by omega), Int.emod_lt_of_pos _ (by omega)⟩
theorem Wt_grid {p x : Int} {c i : Nat} (G : Good p c) (h0 : 0 ≤ x) (h1 : x < c) (hi : i < c) : Wt p x c i = if x = i then 1 else 0 := by
  unfold Wt
  split
  · rename_i e
    subst e
    rw [Int.mul_comm]
    exact G.2.2.2 i hi
  · rename_i e
    rw [aL_zero G.1 h0 e h1, Int.zero_mul]
    rfl
/-- an inverse is what the power is -/
theorem inv_eq {p : Int} {b u v : Int} (hp : 2 ≤ p) (hu : u * b % p = 1) (hv : v * b % p = 1) (u0 : 0 ≤ u ∧ u < p) (v0 : 0 ≤ v ∧ v < p) : u = v := by
  have h1 : v * (u * b) % p = v := by
    rw [Int.mul_emod, hu, Int.mul_one, Int.emod_emod]
    exact Int.emod_eq_of_lt v0.1 v0.2
  have h2 : u * (v * b) % p = u := by
    rw [Int.mul_emod, hv, Int.mul_one, Int.emod_emod]
    exact Int.emod_eq_of_lt u0.1 u0.2
  have h3 : v * (u * b) = u * (v * b) := Int.mul_left_comm v u b
  rw [h3] at h1
  exact h2.symm.trans h1
theorem gcd_one {p n : Nat} {u : Int} (h : u * n % p = 1) : Nat.gcd n p = 1 := by
  have d1 : ((Nat.gcd n p : Nat) : Int) ∣ u * n := Int.dvd_mul_of_dvd_right (Int.natCast_dvd_natCast.mpr (Nat.gcd_dvd_left n p))
  have d2 : ((Nat.gcd n p : Nat) : Int) ∣ (p : Int) := Int.natCast_dvd_natCast.mpr (Nat.gcd_dvd_right n p)
  have d3 : ((Nat.gcd n p : Nat) : Int) ∣ 1 := by
    rw [← h, Int.emod_def]
    exact Int.dvd_sub d1 (Int.dvd_mul_of_dvd_left d2)
  exact Nat.dvd_one.mp (Int.natCast_dvd_natCast.mp d3)
theorem weights_ok {p x : Int} {c : Nat} {M : Hd} (G : Good p c) (hx : 0 ≤ x ∧ x < p) :
    Wp (m_weights [.int c, .int p, .int x] M) (okQ fun d M1 => d = .ref M.length ∧ M1 = M ++ [.lst ((List.range c).map fun i => .int (Wt p x c i))]) := by
  obtain ⟨hp, hp2, hc, hG⟩ := id G
  refine wp_mir rfl ?_
  unfold g_weights
  walk_at "di"
  rw [if_smP (by omega)]
  refine wp_forL (fun i r M1 => ∃ a b d e, r = [some (.int c), some (.int p), some (.int x), some (.ref M.length), a, b, d, e] ∧ M1 = M ++ [.lst ((List.range i).map fun i => .int (Wt p x c i))]) ?_ ?_ ?_
  · rintro i d r M1 hd ⟨a, b, d', e, rfl, rfl⟩
    obtain ⟨hi, rfl⟩ := ints_get hd
    refine ⟨by simp, _, rfl, ?_⟩
    walk_at "di"
    rw [if_smP (by omega)]
    refine wp_forL (fun j r M1 => ∃ e, r = [some (.int c), some (.int p), some (.int x), some (.ref M.length), some (.int (0 + (i : Int))), some (.int (aL p x i j)), some (.int (aL p i i j)), e] ∧ M1 = M ++ [.lst ((List.range i).map fun i => .int (Wt p x c i))]) ?_ ?_ ?_
    · rintro j d r M1 hd ⟨e, rfl, rfl⟩
      obtain ⟨hj, rfl⟩ := ints_get hd
      refine ⟨by simp, _, rfl, ?_⟩
      have b1 := aL_bd (x := x) (i := i) hp j
      have b2 := aL_bd (x := i) (i := i) hp j
      walk_at "di"
      split
      · rename_i hne
        walk_at "di"
        rw [mulG_l (by omega)]
        walk_at "di"
        rw [modG_ok (by omega)]
        walk_at "di"
        rw [mulG_l (by omega)]
        walk_at "di"
        rw [modG_ok (by omega)]
        walk_at "di"
        refine ⟨some (.int (0 + (j : Int))), ?_⟩
        have hne : ¬ (j : Int) = i := by omega
        simp only [Int.zero_add, aL, if_neg hne]
      · rename_i hne
        walk_at "di"
        refine ⟨some (.int (0 + (j : Int))), ?_⟩
        have hne : (j : Int) = i := by omega
        simp only [Int.zero_add, aL, if_pos hne]
    · rintro r M1 ⟨e, rfl, rfl⟩
      rw [ints_length]
      refine ⟨by simp, ?_⟩
      have hcc : (c : Int).toNat = c := by omega
      rw [hcc] at hi ⊢
      have b1 := aL_bd (x := x) (i := i) hp c
      have b2 := aL_bd (x := i) (i := i) hp c
      have hgi := hG i hi
      generalize hA : aL p x i c = A at b1
      generalize hB : aL p i i c = B at b2 hgi
      obtain ⟨n, rfl⟩ := Int.eq_ofNat_of_zero_le b2.1
      obtain ⟨q, rfl⟩ := Int.eq_ofNat_of_zero_le (show 0 ≤ p by omega)
      walk_at "di"
      refine (inverse_ok (by omega) (by omega) (by omega)).ok ?_
      rintro d _ ⟨rfl, hI⟩
      rcases hI with ⟨h1, _⟩ | ⟨_, v, rfl, v0, v1, v2⟩
      · exact (h1 (gcd_one hgi)).elim
      walk_at "di"
      rw [mulG_l (by omega)]
      walk_at "di"
      rw [modG_ok (by omega)]
      walk_at "di"
      rw [if_pos (by simp; omega)]
      walk_at "di"
      refine ⟨_, _, _, _, rfl, ?_⟩
      have hv : v = pw q n := inv_eq hp v2 hgi ⟨v0, v1⟩ (pw_bd hp _)
      rw [List.range_succ, List.map_append, List.map_cons, List.map_nil]
      congr 3
      unfold Wt
      rw [hA, hB, hv]
    · exact ⟨e, by rw [aL, aL], rfl⟩
  · rintro r M1 ⟨a, b, d', e, rfl, rfl⟩
    rw [ints_length]
    refine ⟨by simp, ?_⟩
    have hcc : (c : Int).toNat = c := by omega
    rw [hcc]
    walk_at "di"
  · exact ⟨_, _, _, _, rfl, rfl⟩
/-! ### tables -/
def rw_ (c : Nat) (g : Nat → Int) : D := .tup ((List.range c).map fun j => .int (g j))
def tb (c : Nat) (f : Nat → Nat → Int) : D := .tup ((List.range c).map fun i => rw_ c (f i))
def Sm_ (p y : Int) (c : Nat) (g : Nat → Int) : Nat → Int
  | 0 => 0
  | j + 1 => Sm_ p y c g j + g j * Wt p y c j
def Tt (p x y : Int) (c : Nat) (f : Nat → Nat → Int) : Nat → Int
  | 0 => 0
  | n + 1 => (Tt p x y c f n + Wt p x c n * Sm_ p y c (f n) c) % p
theorem Tt_bd {p x y : Int} {c : Nat} {f : Nat → Nat → Int} (hp : 2 ≤ p) (n : Nat) : 0 ≤ Tt p x y c f n ∧ Tt p x y c f n < p := by
  cases n with
  | zero => unfold Tt; omega
  | succ n => exact ⟨Int.emod_nonneg _ (by omega), Int.emod_lt_of_pos _ (by omega)⟩
theorem Sm_grid {p y : Int} {c : Nat} {g : Nat → Int} (G : Good p c) (h0 : 0 ≤ y) (h1 : y < c) : ∀ n, n ≤ c → Sm_ p y c g n = if y < n then g y.toNat else 0 := by
  intro n
  induction n with
  | zero => intro _; rw [if_neg (by omega)]; first | rw [Sm_] | rw [Tt]
  | succ n ih =>
    intro hn
    unfold Sm_
    rw [ih (by omega), Wt_grid G h0 h1 (by omega)]
    by_cases e : y = n
    · subst e
      rw [if_neg (by omega), if_pos rfl, if_pos (by omega)]
      simp
    · by_cases e2 : y < n
      · rw [if_pos e2, if_neg e, if_pos (by omega)]; simp
      · rw [if_neg e2, if_neg e, if_neg (by omega)]; simp
theorem Tt_grid {p x y : Int} {c : Nat} {f : Nat → Nat → Int} (G : Good p c) (x0 : 0 ≤ x) (x1 : x < c) (y0 : 0 ≤ y) (y1 : y < c) : ∀ n, n ≤ c → Tt p x y c f n = if x < n then f x.toNat y.toNat % p else 0 := by
  intro n
  induction n with
  | zero => intro _; rw [if_neg (by omega)]; first | rw [Sm_] | rw [Tt]
  | succ n ih =>
    intro hn
    unfold Tt
    rw [ih (by omega), Wt_grid G x0 x1 (by omega), Sm_grid G y0 y1 c (Nat.le_refl _), if_pos y1]
    by_cases e : x = n
    · subst e
      rw [if_neg (by omega), if_pos rfl, if_pos (by omega)]
      simp
    · by_cases e2 : x < n
      · rw [if_pos e2, if_neg e, if_pos (by omega)]; simp
      · rw [if_neg e2, if_neg e, if_neg (by omega)]; simp
theorem ix_tb {c : Nat} {f : Nat → Nat → Int} {x : Int} {M : Hd} (h0 : 0 ≤ x) (h1 : x < c) : ixG (tb c f) (.int x) M = some (.ok (rw_ c (f x.toNat)) M) := by
  unfold tb
  rw [ixG_tup, atI_rng h0 h1]
  rfl
theorem ix_rw {c : Nat} {g : Nat → Int} {x : Int} {M : Hd} (h0 : 0 ≤ x) (h1 : x < c) : ixG (rw_ c g) (.int x) M = some (.ok (.int (g x.toNat)) M) := by
  unfold rw_
  rw [ixG_tup, atI_rng h0 h1]
  rfl
theorem len_tb {c : Nat} {f : Nat → Nat → Int} {M : Hd} : lenD (tb c f) M = some (.ok (.int c) M) := by
  unfold tb
  rw [lenD_tup, List.length_map, List.length_range]
theorem zw_map {F H : Nat → D} {c : Nat} : pairsD ((List.range c).map F) ((List.range c).map H) = (List.range c).map fun i => .tup [F i, H i] := by
  unfold pairsD
  rw [List.zipWith_map, List.zipWith_self]
theorem zip2_eq {fa fb : EF} {r : Ev} {M M1 M2 : Hd} {x y : D} {xs ys : List D} {g h : Gd} (e1 : fa r M = some (.ok x M1)) (e2 : fb r M1 = some (.ok y M2)) (e3 : sqD x M2 = some (xs, g)) (e4 : sqD y M2 = some (ys, h)) :
    zip2I fa fb r M = some (.ok (pairsD xs ys, g ++ h) M2) := by
  unfold zip2I
  rw [e1]
  dsimp only [bnd_ok]
  rw [e2]
  dsimp only [bnd_ok]
  rw [e3, e4]
theorem sq_tb (c : Nat) (f : Nat → Nat → Int) {M : Hd} : sqD (tb c f) M = some ((List.range c).map fun i => rw_ c (f i), []) := by unfold tb; rfl
theorem sq_rw (c : Nat) (g : Nat → Int) {M : Hd} : sqD (rw_ c g) M = some ((List.range c).map fun i => .int (g i), []) := by unfold rw_; rfl
theorem sq_ref {k : Nat} {ds : List D} {M : Hd} (h : M[k]? = some (.lst ds)) : sqD (.ref k) M = some (ds, [(k, ds)]) := by
  unfold sqD
  dsimp only
  rw [h]
theorem pairs_get {F H : Nat → D} {c i : Nat} {d : D} (h : (pairsD ((List.range c).map F) ((List.range c).map H))[i]? = some d) : i < c ∧ d = .tup [F i, H i] := by
  rw [zw_map, List.getElem?_map] at h
  by_cases hi : i < c
  · rw [List.getElem?_range hi] at h
    exact ⟨hi, (Option.some.inj h).symm⟩
  · rw [List.getElem?_eq_none (by simpa using hi)] at h
    cases h
theorem pairs_len {F H : Nat → D} {c : Nat} : (pairsD ((List.range c).map F) ((List.range c).map H)).length = c := by
  rw [zw_map, List.length_map, List.length_range]
theorem interpolate_ok {p x y : Int} {c : Nat} {f : Nat → Nat → Int} {M : Hd} (G : Good p c) (hx : 0 ≤ x ∧ x < p) (hy : 0 ≤ y ∧ y < p) :
    Wp (m_interpolate [tb c f, .int p, .int x, .int y] M) (okQ fun d M1 => (∃ X, M1 = M ++ X) ∧ d = .int (Tt p x y c f c)) := by
  obtain ⟨hp, hp2, hc, hG⟩ := id G
  refine wp_mir rfl ?_
  unfold g_interpolate
  walk_at "ds"
  rw [len_tb]
  walk_at "ds"
  refine Wp.imp (Q := fun o => (o = (Fl.rt (.int (Tt p x y c f c)), M)) ∨ o = (Fl.nx [some (tb c f), some (.int p), some (.int x), some (.int y), some (.int c), none, none, none, none, none, none, none, none], M)) ?_ ?_
  · by_cases h : (0 ≤ x ∧ x < c) ∧ (0 ≤ y ∧ y < c)
    · obtain ⟨⟨x0, x1⟩, y0, y1⟩ := h
      walk_at "di"
      simp only [if_pos x0, if_pos y0]
      walk_at "di"
      simp only [if_pos x1]
      walk_at "di"
      simp only [if_pos y1]
      rw [ix_tb x0 x1]
      walk_at "di"
      rw [ix_rw y0 y1]
      walk_at "di"
      rw [modG_ok (by omega)]
      walk_at "di"
      left
      rw [Tt_grid G x0 x1 y0 y1 c (Nat.le_refl _), if_pos x1]
    · walk_at "di"
      by_cases x0 : 0 ≤ x
      · rw [if_pos x0]
        walk_at "di"
        by_cases x1 : x < c
        · rw [if_pos x1]
          walk_at "di"
          by_cases y0 : 0 ≤ y
          · rw [if_pos y0]
            walk_at "di"
            rw [if_neg (fun y1 => h ⟨⟨x0, x1⟩, y0, y1⟩)]
            walk_at "di"
            right
            trivial
          · rw [if_neg y0]
            walk_at "di"
            right
            trivial
        · rw [if_neg x1]
          walk_at "di"
          right
          trivial
      · rw [if_neg x0]
        walk_at "di"
        right
        trivial
  · rintro _ (rfl | rfl)
    · walk_at "di"
      exact ⟨[], by simp⟩
    · walk_at "di"
      refine (weights_ok G hx).ok ?_
      rintro _ _ ⟨rfl, rfl⟩
      walk_at "di"
      refine (weights_ok G hy).ok ?_
      rintro _ _ ⟨rfl, rfl⟩
      walk_at "di"
      have get0 : (M ++ [O.lst ((List.range c).map fun i => .int (Wt p x c i))] ++ [O.lst ((List.range c).map fun i => .int (Wt p y c i))])[M.length]? = some (O.lst ((List.range c).map fun i => .int (Wt p x c i))) := by simp
      rw [zip2_eq rfl rfl (sq_tb c f) (sq_ref get0), wp_some]
      dsimp only
      refine wp_forL (fun i r M1 => ∃ a b d e1 e2, r = [some (tb c f), some (.int p), some (.int x), some (.int y), some (.int c), some (.ref M.length), some (.ref (M ++ [O.lst ((List.range c).map fun i => .int (Wt p x c i))]).length), some (.int (Tt p x y c f i)), a, b, d, e1, e2] ∧
          M1 = M ++ [O.lst ((List.range c).map fun i => .int (Wt p x c i))] ++ [O.lst ((List.range c).map fun i => .int (Wt p y c i))]) ?_ ?_ ?_
      · rintro i d r M1 hd ⟨a, b, d', e1, e2, rfl, rfl⟩
        obtain ⟨hi, rfl⟩ := pairs_get hd
        refine ⟨by simp, _, rfl, ?_⟩
        walk_at "di"
        rw [zip2_eq rfl rfl (sq_rw c (f i)) (sq_ref List.getElem?_concat_length), wp_some]
        dsimp only
        refine wp_forL (fun j r M1 => ∃ e1 e2, r = [some (tb c f), some (.int p), some (.int x), some (.int y), some (.int c), some (.ref M.length), some (.ref (M ++ [O.lst ((List.range c).map fun i => .int (Wt p x c i))]).length), some (.int (Tt p x y c f i)), some (rw_ c (f i)), some (.int (Wt p x c i)), some (.int (Sm_ p y c (f i) j)), e1, e2] ∧
            M1 = M ++ [O.lst ((List.range c).map fun i => .int (Wt p x c i))] ++ [O.lst ((List.range c).map fun i => .int (Wt p y c i))]) ?_ ?_ ?_
        · rintro j d r M1 hd ⟨e1, e2, rfl, rfl⟩
          obtain ⟨hj, rfl⟩ := pairs_get hd
          refine ⟨by simp, _, rfl, ?_⟩
          have wb := Wt_bd (x := y) (c := c) (i := j) hp
          walk_at "di"
          rw [mulG_r (by omega)]
          walk_at "di"
          exact ⟨some (.int (f i j)), some (.int (Wt p y c j)), by rw [Sm_]⟩
        · rintro r M1 ⟨e1, e2, rfl, rfl⟩
          rw [pairs_len]
          refine ⟨by simp, ?_⟩
          have wb := Wt_bd (x := x) (c := c) (i := i) hp
          walk_at "di"
          rw [mulG_l (by omega)]
          walk_at "di"
          rw [modG_ok (by omega)]
          walk_at "di"
          exact ⟨some (rw_ c (f i)), some (.int (Wt p x c i)), some (.int (Sm_ p y c (f i) c)), e1, e2, by rw [Tt]⟩
        · exact ⟨e1, e2, by rw [Sm_], rfl⟩
      · rintro r M1 ⟨a, b, d', e1, e2, rfl, rfl⟩
        rw [pairs_len]
        refine ⟨by simp, ?_⟩
        walk_at "di"
        exact ⟨_, List.append_assoc _ _ _⟩
      · exact ⟨none, none, none, none, none, by rw [Tt], rfl⟩
theorem step_eq {p A W S f V : Int} : (((A + W * S) % p + f * W * V) % p) = (A + W * (S + f * V)) % p := by
  rw [Int.emod_add_emod, Int.mul_add, Int.add_assoc]
  congr 3
  rw [Int.mul_comm f W, Int.mul_assoc]
theorem good_all : ∀ p ∈ ([2, 3, 5, 7, 11, 13, 101, 999999937] : List Int), ∀ c ∈ List.range 13, (c : Int) ≤ p → ∀ i ∈ List.range c, pw p (aL p i i c) * aL p i i c % p = 1 := by decide +kernel
theorem good {p : Int} {c : Nat} (h : p ∈ ([2, 3, 5, 7, 11, 13, 101, 999999937] : List Int)) (hc : c ≤ 12) (hcp : (c : Int) ≤ p) : Good p c := by
  have hb : 2 ≤ p ∧ p < 1099511627776 := by
    simp only [List.mem_cons, List.mem_nil_iff, or_false] at h
    omega
  exact ⟨hb.1, hb.2, by omega, fun i hi => good_all p h c (List.mem_range.mpr (by omega)) hcp i (List.mem_range.mpr hi)⟩
/-- a table of numbers below p -/
theorem row_of {p : Int} {c : Nat} {ds : List D} (hl : ds.length = c) (h : ∀ d ∈ ds, ∃ n : Int, d = .int n ∧ 0 ≤ n ∧ n < p) : ∃ g, D.tup ds = rw_ c g ∧ ∀ j, j < c → 0 ≤ g j ∧ g j < p := by
  have key : ∀ j, ∃ n : Int, j < c → ds[j]? = some (.int n) ∧ 0 ≤ n ∧ n < p := fun j => by
    by_cases hj : j < c
    · have hj' : j < ds.length := by omega
      obtain ⟨n, e, b⟩ := h _ (List.getElem_mem hj')
      exact ⟨n, fun _ => ⟨by rw [List.getElem?_eq_getElem hj', e], b⟩⟩
    · exact ⟨0, fun q => (hj q).elim⟩
  refine ⟨fun j => Classical.choose (key j), ?_, fun j hj => (Classical.choose_spec (key j) hj).2⟩
  unfold rw_
  congr 1
  apply List.ext_getElem?
  intro j
  rw [List.getElem?_map]
  by_cases hj : j < c
  · rw [List.getElem?_range hj, (Classical.choose_spec (key j) hj).1]
    rfl
  · rw [List.getElem?_eq_none (by omega), List.getElem?_eq_none (by simpa using hj)]
    rfl
theorem tab_of {p : Int} {c : Nat} {ds : List D} (hl : ds.length = c) (h : ∀ d ∈ ds, ∃ g, d = rw_ c g ∧ ∀ j, j < c → 0 ≤ g j ∧ g j < p) : ∃ f, D.tup ds = tb c f ∧ ∀ i j, i < c → j < c → 0 ≤ f i j ∧ f i j < p := by
  have key : ∀ i, ∃ g : Nat → Int, i < c → ds[i]? = some (rw_ c g) ∧ ∀ j, j < c → 0 ≤ g j ∧ g j < p := fun i => by
    by_cases hi : i < c
    · have hi' : i < ds.length := by omega
      obtain ⟨g, e, b⟩ := h _ (List.getElem_mem hi')
      exact ⟨g, fun _ => ⟨by rw [List.getElem?_eq_getElem hi', e], b⟩⟩
    · exact ⟨fun _ => 0, fun q => (hi q).elim⟩
  refine ⟨fun i => Classical.choose (key i), ?_, fun i j hi hj => (Classical.choose_spec (key i) hi).2 j hj⟩
  unfold tb
  congr 1
  apply List.ext_getElem?
  intro i
  rw [List.getElem?_map]
  by_cases hi : i < c
  · rw [List.getElem?_range hi, (Classical.choose_spec (key i) hi).1]
    rfl
  · rw [List.getElem?_eq_none (by omega), List.getElem?_eq_none (by simpa using hi)]
    rfl
theorem tupleG_dr {M R Y : Hd} {ds : List D} (h : Dr M (R ++ .lst ds :: Y)) : tupleG (.ref (R.length + 2)) M = some (.ok (.tup ds) M) := by
  unfold tupleG
  dsimp only
  rw [h.get, get_mid]
/-! ### steps of programs -/
inductive Fc where
  | cell (i : Int) | inp (i : Int)
def fcD : Fc → D
  | .cell i => .tup [.str "cell", .int i]
  | .inp i => .tup [.str "input", .int i]
/-- a factor of a step on the cell t, of n cells and k inputs -/
def FcOk (t n k : Int) : Fc → Prop
  | .cell i => (0 ≤ i ∧ i < n) ∧ i ≠ t
  | .inp i => 0 ≤ i ∧ i < k
inductive Sp_ where
  | add (t c : Int) (fs : List Fc) | scale (t u : Int) | swap (a b : Int) | table (t s : Int) (c : Nat) (f : Nat → Nat → Int) (a b : Int)
def spd : Sp_ → D
  | .add t c fs => .tup [.str "add", .int t, .int c, .tup (fs.map fcD)]
  | .scale t u => .tup [.str "scale", .int t, .int u]
  | .swap a b => .tup [.str "swap", .int a, .int b]
  | .table t s c f a b => .tup [.str "table", .int t, .int s, tb c f, .int a, .int b]
/-- a step with modulus m, n cells, k inputs -/
def SpOk (m n k : Int) : Sp_ → Prop
  | .add t c fs => (0 ≤ t ∧ t < n) ∧ (0 ≤ c ∧ c < m) ∧ fs.length ≤ 3 ∧ ∀ x ∈ fs, FcOk t n k x
  | .scale t u => (0 ≤ t ∧ t < n) ∧ (0 ≤ u ∧ u < m) ∧ Nat.gcd u.toNat m.toNat = 1
  | .swap a b => (0 ≤ a ∧ a < n) ∧ (0 ≤ b ∧ b < n) ∧ a ≠ b
  | .table t s c f a b => ((0 ≤ t ∧ t < n) ∧ (0 ≤ a ∧ a < n) ∧ (0 ≤ b ∧ b < n)) ∧ (t ≠ a ∧ t ≠ b ∧ a ≠ b) ∧ (s = 1 ∨ s = m - 1) ∧ (1 ≤ c ∧ (c : Int) ≤ m) ∧ (∀ i j, i < c → j < c → 0 ≤ f i j ∧ f i j < m) ∧ Prm m ∧ Good m c
theorem is_factor_yes {t n k : Int} {x : Fc} {M : Hd} (h : FcOk t n k x) : m_is_factor [fcD x, .int t, .int n, .int k] M = some (.ok (.bl true) M) := by
  refine wp_eq ?_
  refine wp_mir rfl ?_
  unfold g_is_factor
  cases x with
  | cell i =>
    simp only [FcOk] at h
    unfold fcD
    walk_at "di"
    rw [is_number_yes h.1]
    walk_at "di"
    rw [decide_eq_false h.2]
    first | done | rfl
  | inp i =>
    simp only [FcOk] at h
    unfold fcD
    walk_at "sx"
    rw [is_number_yes h]
    walk_at "sx"
theorem is_add_yes {m n k t c : Int} {fs : List Fc} {M : Hd} (h : SpOk m n k (.add t c fs)) : m_is_add [spd (.add t c fs), .int m, .int n, .int k] M = some (.ok (.bl true) M) := by
  obtain ⟨ht, hc, hl, hf⟩ := h
  refine wp_eq ?_
  refine wp_mir rfl ?_
  unfold g_is_add spd
  walk_at "ds"
  refine Wp.imp (Q := fun o => o = (Fl.nx [some (.tup [.str "add", .int t, .int c, .tup (fs.map fcD)]), some (.int m), some (.int n), some (.int k), some (.str "add"), some (.int t), some (.int c), some (.tup (fs.map fcD)), none], M)) ?_ ?_
  · walk_at "di"
    rw [is_number_yes ht]
    walk_at "di"
    rw [is_number_yes hc]
    walk_at "di"
  rintro _ rfl
  walk_at "ds"
  refine Wp.imp (Q := fun o => o = (Fl.nx [some (.tup [.str "add", .int t, .int c, .tup (fs.map fcD)]), some (.int m), some (.int n), some (.int k), some (.str "add"), some (.int t), some (.int c), some (.tup (fs.map fcD)), none], M)) ?_ ?_
  · walk_at "di"
    rw [List.length_map, if_neg (by omega)]
    first | done | trivial | rfl
  rintro _ rfl
  walk_at "ds"
  refine wp_forL (fun i r M1 => ∃ b, r = [some (.tup [.str "add", .int t, .int c, .tup (fs.map fcD)]), some (.int m), some (.int n), some (.int k), some (.str "add"), some (.int t), some (.int c), some (.tup (fs.map fcD)), b] ∧ M1 = M) ?_ ?_ ?_
  · rintro i d r M1 hd ⟨b, rfl, rfl⟩
    rw [List.getElem?_map] at hd
    obtain ⟨x, hx, rfl⟩ := Option.map_eq_some_iff.mp hd
    refine ⟨by simp, _, rfl, ?_⟩
    walk_at "di"
    rw [is_factor_yes (hf x (List.mem_of_getElem? hx))]
    walk_at "di"
    exact ⟨_, rfl⟩
  · rintro r M1 ⟨b, rfl, rfl⟩
    refine ⟨by simp, ?_⟩
    walk_at "ds"
  · exact ⟨none, rfl, rfl⟩
theorem tb_tup {c : Nat} {f : Nat → Nat → Int} : tb c f = .tup ((List.range c).map fun i => rw_ c (f i)) := rfl
theorem is_table_yes {m : Int} {c : Nat} {f : Nat → Nat → Int} {M : Hd} (h1 : 1 ≤ c ∧ (c : Int) ≤ m) (hf : ∀ i j, i < c → j < c → 0 ≤ f i j ∧ f i j < m) : m_is_table [tb c f, .int m] M = some (.ok (.bl true) M) := by
  refine wp_eq ?_
  refine wp_mir rfl ?_
  unfold g_is_table
  walk_at "ds"
  refine Wp.imp (Q := fun o => o = (Fl.nx [some (tb c f), some (.int m), none, none], M)) ?_ ?_
  · unfold tb
    walk_at "di"
    rw [List.length_map, List.length_range, if_pos (by omega)]
    walk_at "di"
    rw [if_neg (by simp; omega)]
    first | done | trivial | rfl
  rintro _ rfl
  walk_at "ds"
  unfold tb
  walk_at "ds"
  refine wp_forL (fun i r M1 => ∃ a b, r = [some (.tup ((List.range c).map fun i => rw_ c (f i))), some (.int m), a, b] ∧ M1 = M) ?_ ?_ ?_
  · rintro i d r M1 hd ⟨a, b, rfl, rfl⟩
    rw [List.getElem?_map] at hd
    obtain ⟨q, hq, rfl⟩ := Option.map_eq_some_iff.mp hd
    obtain ⟨hic, e⟩ := List.getElem?_eq_some_iff.mp hq
    rw [List.length_range] at hic
    rw [List.getElem_range] at e
    subst e
    refine ⟨by simp, _, rfl, ?_⟩
    walk_at "ds"
    refine Wp.imp (Q := fun o => o = (Fl.nx [some (.tup ((List.range c).map fun i => rw_ c (f i))), some (.int m), some (rw_ c (f i)), b], M1)) ?_ ?_
    · unfold rw_
      walk_at "di"
      rw [List.length_map, List.length_map, if_neg (by simp)]
      first | done | trivial | rfl
    rintro _ rfl
    walk_at "ds"
    unfold rw_
    walk_at "ds"
    refine wp_forL (fun j r M2 => ∃ a b, r = [some (.tup ((List.range c).map fun i => .tup ((List.range c).map fun j => .int (f i j)))), some (.int m), a, b] ∧ M2 = M1) ?_ ?_ ?_
    · rintro j d r M2 hd ⟨a, b, rfl, rfl⟩
      rw [List.getElem?_map] at hd
      obtain ⟨q, hq, rfl⟩ := Option.map_eq_some_iff.mp hd
      obtain ⟨hjc, e⟩ := List.getElem?_eq_some_iff.mp hq
      rw [List.length_range] at hjc
      rw [List.getElem_range] at e
      subst e
      refine ⟨by simp, _, rfl, ?_⟩
      walk_at "di"
      rw [is_number_yes (hf _ _ hic hjc)]
      walk_at "di"
      exact ⟨_, _, rfl⟩
    · rintro r M2 ⟨a, b, rfl, rfl⟩
      refine ⟨by simp, ?_⟩
      rw [lpQ_nx]
      exact ⟨_, _, rfl, rfl⟩
    · exact ⟨_, _, rfl, rfl⟩
  · rintro r M1 ⟨a, b, rfl, rfl⟩
    refine ⟨by simp, ?_⟩
    walk_at "ds"
  · exact ⟨none, none, rfl, rfl⟩
theorem is_integer_int {n : Int} {M : Hd} : m_is_integer [.int n] M = some (.ok (.bl true) M) := by
  refine wp_eq ?_
  refine wp_mir rfl ?_
  unfold g_is_integer
  walk_at "di"
theorem is_look_yes {m n k t s a b : Int} {c : Nat} {f : Nat → Nat → Int} {M : Hd} (h : SpOk m n k (.table t s c f a b)) : m_is_look [spd (.table t s c f a b), .int m, .int n] M = some (.ok (.bl true) M) := by
  obtain ⟨⟨ht, ha, hb⟩, ⟨e1, e2, e3⟩, hs, hc, hf, _⟩ := h
  refine wp_eq ?_
  refine wp_mir rfl ?_
  unfold g_is_look spd
  walk_at "ds"
  simp only [forL, still_nil, if_true, Tg.put]
  walk_at "di"
  rw [is_number_yes ht]
  walk_at "di"
  rw [is_number_yes ha]
  walk_at "di"
  rw [is_number_yes hb]
  walk_at "di"
  rw [if_neg e1]
  walk_at "di"
  rw [if_neg e2]
  walk_at "di"
  rw [if_neg e3]
  walk_at "di"
  rw [is_integer_int]
  walk_at "di"
  have fin : Wp (m_is_table [tb c f, .int m] M) (okQ fun d M1 => Rs.ok d M1 = Rs.ok (.bl true) M) := by
    rw [is_table_yes hc hf]
    walk_at "di"
  rcases hs with hs | hs
  · rw [if_neg (by simp [hs])]
    first | exact fin | (walk_at "di"; exact fin)
  · by_cases h1 : s = 1
    · rw [if_neg (by simp [h1])]
      first | exact fin | (walk_at "di"; exact fin)
    · rw [if_pos h1]
      walk_at "di"
      rw [if_neg (by simp [hs])]
      first | exact fin | (walk_at "di"; exact fin)
theorem is_step_yes {m n k : Int} {x : Sp_} {M : Hd} (hm : 2 ≤ m ∧ m ≤ 1000000000) (h : SpOk m n k x) : m_is_step [spd x, .int m, .int n, .int k] M = some (.ok (.bl true) M) := by
  refine wp_eq ?_
  refine wp_mir rfl ?_
  unfold g_is_step
  cases x with
  | add t c fs =>
    have e := is_add_yes (M := M) h
    unfold spd at e ⊢
    walk_at "sx"
    rw [e]
    walk_at "sx"
  | scale t u =>
    obtain ⟨ht, hu, hg⟩ := h
    unfold spd
    walk_at "sx"
    rw [is_number_yes ht]
    walk_at "sx"
    rw [is_number_yes hu]
    walk_at "sx"
    obtain ⟨u', rfl⟩ := Int.eq_ofNat_of_zero_le hu.1
    obtain ⟨m', rfl⟩ := Int.eq_ofNat_of_zero_le (show 0 ≤ m by omega)
    refine (inverse_ok (by omega) (by omega) (by omega)).ok ?_
    rintro v _ ⟨rfl, hv⟩
    rcases hv with ⟨hv, rfl⟩ | ⟨hv, v, rfl, _⟩
    · exact absurd hg (by rw [Int.toNat_natCast, Int.toNat_natCast]; omega)
    · walk_at "sx"
  | swap a b =>
    obtain ⟨ha, hb, hne⟩ := h
    unfold spd
    walk_at "sx"
    rw [is_number_yes ha]
    walk_at "sx"
    rw [is_number_yes hb]
    walk_at "sx"
    rw [decide_eq_false hne]
    first | done | rfl
  | table t s c f a b =>
    have e := is_look_yes (M := M) h
    unfold spd at e ⊢
    walk_at "sx"
    rw [e]
    walk_at "sx"
theorem spd_tup (x : Sp_) : ∃ s l, spd x = .tup (.str s :: l) := by
  cases x <;> exact ⟨_, _, rfl⟩
/-- a list of steps that is right; looks: a table step is among them -/
theorem check_steps_ok {m n k : Int} {xs : List Sp_} {q : Nat} {M : Hd} (hm : 2 ≤ m ∧ m ≤ 1000000000) (hl : xs.length ≤ 20000) (hx : ∀ x ∈ xs, SpOk m n k x) (hp : (∀ x ∈ xs, ∀ t s c f a b, x ≠ .table t s c f a b) ∨ m_is_prime [.int m] M = some (.ok (.bl true) M)) (hq : M[q]? = some (.lst (xs.map spd))) :
    m_check_steps [.ref q, .int m, .int n, .int k, .int 20000] M = some (.ok .non M) := by
  refine wp_eq ?_
  refine wp_mir rfl ?_
  unfold g_check_steps
  walk_at "ds"
  refine Wp.imp (Q := fun o => o = (Fl.nx [some (.ref q), some (.int m), some (.int n), some (.int k), some (.int 20000), none, none], M)) ?_ ?_
  · walk_at "di"
    rw [isiG_ref hq]
    walk_at "di"
    rw [hq]
    walk_at "di"
    rw [List.length_map, if_neg (by omega)]
    first | done | trivial | rfl
  rintro _ rfl
  walk_at "ds"
  rw [hq]
  walk_at "ds"
  refine wp_forL (fun i r M1 => ∃ (l : Bool) (b : Option D), r = [some (.ref q), some (.int m), some (.int n), some (.int k), some (.int 20000), some (.bl l), b] ∧ M1 = M ∧ (l = true → ∃ x ∈ xs, ∃ t s c f a b, x = .table t s c f a b)) ?_ ?_ ?_
  · rintro i d r M1 hd ⟨l, b, rfl, rfl, hlk⟩
    rw [List.getElem?_map] at hd
    obtain ⟨x, hxi, rfl⟩ := Option.map_eq_some_iff.mp hd
    have hxm := List.mem_of_getElem? hxi
    refine ⟨by simp only [still_one, still_nil, and_true]; exact hq, _, rfl, ?_⟩
    walk_at "ds"
    refine Wp.imp (Q := fun o => o = (Fl.nx [some (.ref q), some (.int m), some (.int n), some (.int k), some (.int 20000), some (.bl l), some (spd x)], M1)) ?_ ?_
    · walk_at "di"
      rw [is_step_yes hm (hx x hxm)]
      walk_at "di"
    rintro _ rfl
    cases l with
    | true =>
      walk_at "ds"
      exact ⟨_, _, rfl, hlk⟩
    | false =>
      cases x with
      | table t s c f a b =>
        unfold spd
        walk_at "sx"
        exact ⟨_, _, rfl, fun _ => ⟨_, hxm, t, s, c, f, a, b, rfl⟩⟩
      | add t c fs =>
        unfold spd
        walk_at "sx"
        exact ⟨_, _, rfl, fun h => nomatch h⟩
      | scale t u =>
        unfold spd
        walk_at "sx"
        exact ⟨_, _, rfl, fun h => nomatch h⟩
      | swap a b =>
        unfold spd
        walk_at "sx"
        exact ⟨_, _, rfl, fun h => nomatch h⟩
  · rintro r M1 ⟨l, b, rfl, rfl, hlk⟩
    refine ⟨by simp only [still_one, still_nil, and_true]; exact hq, ?_⟩
    walk_at "di"
    cases l with
    | false => walk_at "di"
    | true =>
      walk_at "di"
      rcases hp with hp | hp
      · obtain ⟨x, hxm, t, s, c, f, a, b, e⟩ := hlk rfl
        exact absurd e (hp x hxm t s c f a b)
      · rw [hp]
        walk_at "di"
  · exact ⟨false, none, rfl, rfl, fun h => nomatch h⟩
/-! ### programs -/
def progO (m n k : Int) (p : Nat) : O := .ins "Program" [("modulus", .int m), ("cells", .int n), ("inputs", .int k), ("steps", .ref p)]
theorem rng_go {r : Ev} {M : Hd} {j : Nat} {v lo hi : Int} {Q : Fl × Hd → Prop} {f : SF} (hr : r[j]? = some (some (.int v))) (h1 : lo ≤ v ∧ v ≤ hi) (h : Wp (f r M) Q) :
    Wp (sSeq (sIf (tOr (tNot (tTru (eCall m_is_integer (aCons (eVar j) aNil)))) (tNot (tVal (eChain leG leG (eC (.int lo)) (eVar j) (eC (.int hi)))))) (sRaise "BadStep") sNil) f r M) Q := by
  rw [wp_seq]
  refine Wp.imp (Q := fun o => o = (Fl.nx r, M)) ?_ ?_
  · simp only [sIf, tOr, tNot, tTru, truD, eCall, aCons, aNil, eVar, hr, wp_exB, wp_bnd, wp_some, wp_ite]
    rw [is_integer_int]
    walk_at "di"
    rw [hr]
    walk_at "di"
    rw [if_pos h1.1]
    walk_at "di"
    rw [if_neg (by simp; omega)]
    first | done | trivial | rfl
  · rintro _ rfl
    rw [nxQ_nx]
    exact h
theorem fld_eq {c f : Str} {fo fe : EF} {r : Ev} {M M1 : Hd} {d : D} {i : Nat} {fs : List (Str × D)} (he : fe r M = some (.ok d M1)) (ho : fo r M1 = some (.ok (.ref i) M1)) (hi : M1[i]? = some (.ins c fs)) (hl : fs.length < 1000) : sFld c f fo fe r M = some (.nx r, M1.set i (.ins c (putFD f d fs))) := by
  unfold sFld
  rw [he, exB_ok, ho, exB_ok]
  dsimp only
  rw [hi]
  dsimp only
  rw [if_pos ⟨rfl, hl⟩]
theorem fld_go {c f : Str} {fo fe : EF} {r : Ev} {M M1 : Hd} {d : D} {i : Nat} {fs : List (Str × D)} {g : SF} {Q : Fl × Hd → Prop} (he : fe r M = some (.ok d M1)) (ho : fo r M1 = some (.ok (.ref i) M1)) (hi : M1[i]? = some (.ins c fs)) (hl : fs.length < 1000) (h : Wp (g r (M1.set i (.ins c (putFD f d fs)))) Q) : Wp (sSeq (sFld c f fo fe) g r M) Q := by
  rw [wp_seq]
  refine wp_of_eq (fld_eq he ho hi hl) ?_
  rw [nxQ_nx]
  exact h
theorem set_get {M : Hd} {i : Nat} {o o2 : O} (h : M[i]? = some o) : (M.set i o2)[i]? = some o2 := by
  rw [List.getElem?_set_self (List.getElem?_eq_some_iff.mp h).1]
theorem pf2 {x y : D} : putFD "cells" y [("modulus", x)] = ([("modulus", x), ("cells", y)] : List (Str × D)) := by
  unfold putFD
  rw [if_neg (by decide +kernel)]
  rfl
theorem pf3 {x y z : D} : putFD "inputs" z [("modulus", x), ("cells", y)] = ([("modulus", x), ("cells", y), ("inputs", z)] : List (Str × D)) := by
  unfold putFD
  rw [if_neg (by decide +kernel)]
  unfold putFD
  rw [if_neg (by decide +kernel)]
  rfl
theorem pf4 {x y z u : D} : putFD "steps" u [("modulus", x), ("cells", y), ("inputs", z)] = ([("modulus", x), ("cells", y), ("inputs", z), ("steps", u)] : List (Str × D)) := by
  unfold putFD
  rw [if_neg (by decide +kernel)]
  unfold putFD
  rw [if_neg (by decide +kernel)]
  unfold putFD
  rw [if_neg (by decide +kernel)]
  rfl
theorem init_ok {m n k : Int} {xs : List Sp_} {i q : Nat} {M : Hd} (hm : 2 ≤ m ∧ m ≤ 1000000000) (hn : 1 ≤ n ∧ n ≤ 60) (hk : 0 ≤ k ∧ k ≤ 60) (hs : m_check_steps [.ref q, .int m, .int n, .int k, .int 20000] M = some (.ok .non M)) (hi : M[i]? = some (.ins "Program" [])) (hq : M[q]? = some (.lst (xs.map spd))) (hiq : i ≠ q) :
    Wp (m_Program___init__ [.ref i, .int m, .int n, .int k, .ref q] M) (okQ fun d M1 => d = .non ∧ M1 = (M ++ [O.lst (xs.map spd)]).set i (progO m n k M.length)) := by
  refine wp_mir rfl ?_
  unfold g_Program___init__
  have hst : startD N_Program___init__.length [.ref i, .int m, .int n, .int k, .ref q] = [some (.ref i), some (.int m), some (.int n), some (.int k), some (.ref q)] := rfl
  rw [hst]
  refine rng_go rfl hm ?_
  refine rng_go rfl hn ?_
  refine rng_go rfl hk ?_
  rw [wp_seq]
  have e1 : sDrop (eCall m_check_steps (aCons (eVar 4) (aCons (eVar 1) (aCons (eVar 2) (aCons (eVar 3) (aCons (eC (.int 20000)) aNil)))))) [some (.ref i), some (.int m), some (.int n), some (.int k), some (.ref q)] M = some (Fl.nx [some (.ref i), some (.int m), some (.int n), some (.int k), some (.ref q)], M) := wp_eq' (by
    walk_at "ds"
    rw [hs]
    walk_at "ds")
  refine wp_of_eq e1 ?_
  rw [nxQ_nx]
  have hlt : i < M.length := (List.getElem?_eq_some_iff.mp hi).1
  have h1 := set_get (o2 := .ins "Program" [("modulus", .int m)]) hi
  refine fld_go (d := .int m) rfl rfl hi (by decide) ?_
  rw [show putFD "modulus" (.int m) [] = ([("modulus", .int m)] : List (Str × D)) from rfl]
  have h2 := set_get (o2 := .ins "Program" [("modulus", .int m), ("cells", .int n)]) h1
  refine fld_go (d := .int n) rfl rfl h1 (by simp) ?_
  rw [pf2]
  have h3 := set_get (o2 := .ins "Program" [("modulus", .int m), ("cells", .int n), ("inputs", .int k)]) h2
  refine fld_go (d := .int k) rfl rfl h2 (by simp) ?_
  rw [pf3]
  rw [List.set_set, List.set_set] at h3 ⊢
  have hq2 : (M.set i (.ins "Program" [("modulus", .int m), ("cells", .int n), ("inputs", .int k)]))[q]? = some (.lst (xs.map spd)) := by
    rw [List.getElem?_set_ne hiq]
    exact hq
  have e2 : sFld "Program" "steps" (eVar 0) (eUn listG (eVar 4)) [some (.ref i), some (.int m), some (.int n), some (.int k), some (.ref q)] (M.set i (.ins "Program" [("modulus", .int m), ("cells", .int n), ("inputs", .int k)])) = some (.nx [some (.ref i), some (.int m), some (.int n), some (.int k), some (.ref q)], (M.set i (.ins "Program" [("modulus", .int m), ("cells", .int n), ("inputs", .int k)]) ++ [O.lst (xs.map spd)]).set i (.ins "Program" (putFD "steps" (.ref M.length) [("modulus", .int m), ("cells", .int n), ("inputs", .int k)]))) := by
    refine fld_eq ?_ rfl (get_old h3) (by simp)
    simp only [eUn, eVar, List.getElem?_cons_zero, List.getElem?_cons_succ, bnd_ok]
    rw [listG_ref hq2, List.length_set]
  refine wp_of_eq e2 ?_
  rw [fnQ_nx, pf4]
  refine ⟨rfl, ?_⟩
  rw [List.set_append_left _ _ (by rw [List.length_set]; exact hlt), List.set_append_left _ _ hlt, List.set_set]
  rfl
def modelO (m n k : Int) (p : Nat) : O := .dic [("modulus", .int m), ("cells", .int n), ("inputs", .int k), ("steps", .ref p)]
theorem dg {M : Hd} {q : Nat} {kvs : List (Str × D)} {s : Str} {d : D} (h : M[q]? = some (.dic kvs)) (e : kvs.lookup s = some d) : dgetG (.ref q) (.str s) M = some (.ok d M) := by
  unfold dgetG
  dsimp only
  rw [h]
  dsimp only
  rw [e]
  rfl
theorem lk_cells {m n k : Int} {p : Nat} : List.lookup ("cells" : Str) [("modulus", D.int m), ("cells", .int n), ("inputs", .int k), ("steps", .ref p)] = some (.int n) := by
  rw [List.lookup_cons, show (("cells" : Str) == "modulus") = false from by decide +kernel]
  rfl
theorem lk_inputs {m n k : Int} {p : Nat} : List.lookup ("inputs" : Str) [("modulus", D.int m), ("cells", .int n), ("inputs", .int k), ("steps", .ref p)] = some (.int k) := by
  rw [List.lookup_cons, show (("inputs" : Str) == "modulus") = false from by decide +kernel]
  dsimp only
  rw [List.lookup_cons, show (("inputs" : Str) == "cells") = false from by decide +kernel]
  rfl
theorem lk_steps {m n k : Int} {p : Nat} : List.lookup ("steps" : Str) [("modulus", D.int m), ("cells", .int n), ("inputs", .int k), ("steps", .ref p)] = some (.ref p) := by
  rw [List.lookup_cons, show (("steps" : Str) == "modulus") = false from by decide +kernel]
  dsimp only
  rw [List.lookup_cons, show (("steps" : Str) == "cells") = false from by decide +kernel]
  dsimp only
  rw [List.lookup_cons, show (("steps" : Str) == "inputs") = false from by decide +kernel]
  rfl
theorem set_mid2 {A : Hd} {a b c d : O} : ((A ++ [a] ++ [b]) ++ [c]).set (A ++ [a]).length d = A ++ [a, d, c] := by
  have e : (A ++ [a] ++ [b]) ++ [c] = (A ++ [a]) ++ (b :: [c]) := by simp
  rw [e, List.set_append_right _ _ (Nat.le_refl _), Nat.sub_self]
  simp
/-! ### a step performed -/
theorem cg_in {m : Int} {vs : List Int} (hm : 0 < m) (h : ∀ v ∈ vs, 0 ≤ v ∧ v < m) (c : Int) : 0 ≤ cg vs c ∧ cg vs c < m := by
  unfold cg
  rw [List.getD_eq_getElem?_getD]
  cases e : vs[c.toNat]? with
  | none => exact ⟨Int.le_refl _, hm⟩
  | some v => exact h v (List.mem_of_getElem? e)
def facV (mem gs : List Int) : Fc → Int
  | .cell i => cg mem i
  | .inp i => cg gs i
def addV (m : Int) (mem gs : List Int) (c : Int) (fs : List Fc) : Int := fs.foldl (fun a x => a * facV mem gs x % m) c
def doS (m : Int) (gs mem : List Int) : Sp_ → List Int
  | .add t c fs => mem.set t.toNat ((cg mem t + addV m mem gs c fs) % m)
  | .scale t u => mem.set t.toNat (cg mem t * u % m)
  | .swap a b => (mem.set a.toNat (cg mem b)).set b.toNat (cg mem a)
  | .table t s c f a b => mem.set t.toNat ((cg mem t + s * Tt m (cg mem a) (cg mem b) c f c) % m)
theorem doS_len {m : Int} {gs mem : List Int} {x : Sp_} : (doS m gs mem x).length = mem.length := by
  cases x <;> unfold doS <;> simp
theorem mem_set {P : Int → Prop} {l : List Int} {i : Nat} {v : Int} (h : ∀ x ∈ l, P x) (hv : P v) : ∀ x ∈ l.set i v, P x := fun x hx => by
  rcases List.mem_or_eq_of_mem_set hx with hx | rfl
  · exact h x hx
  · exact hv
theorem doS_in {m : Int} {gs mem : List Int} {x : Sp_} (hm : 0 < m) (h : ∀ v ∈ mem, 0 ≤ v ∧ v < m) : ∀ v ∈ doS m gs mem x, 0 ≤ v ∧ v < m := by
  have md : ∀ y : Int, 0 ≤ y % m ∧ y % m < m := fun y => ⟨Int.emod_nonneg _ (by omega), Int.emod_lt_of_pos _ hm⟩
  cases x with
  | add t c fs => exact mem_set h (md _)
  | scale t u => exact mem_set h (md _)
  | swap a b => exact mem_set (mem_set h (cg_in hm h _)) (cg_in hm h _)
  | table t s c f a b => exact mem_set h (md _)
theorem addV_in {m : Int} {mem gs : List Int} (hm : 0 < m) : ∀ (fs : List Fc) (c : Int), 0 ≤ c ∧ c < m → 0 ≤ addV m mem gs c fs ∧ addV m mem gs c fs < m
  | [], c, h => h
  | x :: fs, c, h => addV_in hm fs _ ⟨Int.emod_nonneg _ (by omega), Int.emod_lt_of_pos _ hm⟩
theorem ixN_cg {l : List Int} {t : Int} (h : 0 ≤ t ∧ t < l.length) : ixN (l.map D.int).length t = some t.toNat := by
  unfold ixN
  rw [List.length_map]
  simp [h.1, h.2]
theorem spd_ix {s : Str} {l : List D} {M : Hd} : ixG (.tup (.str s :: l)) (.int 0) M = some (.ok (.str s) M) := by
  rw [ixG_tup, atI_c0]
  rfl
theorem map_setI {vs : List Int} {k : Nat} {b : Int} : (vs.map D.int).set k (.int b) = (vs.set k b).map D.int := by
  rw [List.map_set]
theorem performS_ok {m n k : Int} {x : Sp_} {p q : Nat} {M : Hd} {mem gs : List Int} (hm : 2 ≤ m ∧ m ≤ 1000000000) (hx : SpOk m n k x) (hp : M[p]? = some (.lst (mem.map D.int))) (hq : M[q]? = some (.lst (gs.map D.int))) (hn : (mem.length : Int) = n) (hk : (gs.length : Int) = k) (hmem : ∀ v ∈ mem, 0 ≤ v ∧ v < m) (hgs : ∀ v ∈ gs, 0 ≤ v ∧ v < m) (hpq : p ≠ q) :
    Wp (m_perform_steps [spd x, .ref p, .ref q, .int m] M) (okQ fun d M1 => ∃ X, M1 = M.set p (.lst ((doS m gs mem x).map D.int)) ++ X) := by
  have hc := cg_in (show 0 < m by omega) hmem
  refine wp_mir rfl ?_
  unfold g_perform_steps
  cases x with
  | scale t u =>
    obtain ⟨ht, hu, hg⟩ := hx
    have := hc t
    unfold spd
    walk_at "sx"
    rw [hp]
    walk_at "sx"
    rw [atI_cs (by omega)]
    walk_at "sx"
    rw [mulG_l (by omega)]
    walk_at "sx"
    rw [modG_ok (by omega)]
    walk_at "sx"
    rw [hp]
    dsimp only
    rw [ixN_cg (by omega)]
    walk_at "sx"
    refine ⟨[], ?_⟩
    rw [List.append_nil, map_setI]
    rfl
  | swap a b =>
    obtain ⟨ha, hb, hne⟩ := hx
    unfold spd
    walk_at "sx"
    rw [hp]
    walk_at "sx"
    rw [atI_cs (by omega)]
    walk_at "sx"
    rw [hp]
    walk_at "sx"
    rw [atI_cs (by omega)]
    walk_at "sx"
    rw [hp]
    dsimp only
    rw [ixN_cg (by omega)]
    walk_at "sx"
    rw [set_get hp, map_setI]
    dsimp only
    rw [ixN_cg (by rw [List.length_set]; omega)]
    walk_at "sx"
    refine ⟨[], ?_⟩
    rw [List.append_nil, map_setI, List.set_set]
    rfl
  | table t s c f a b =>
    obtain ⟨⟨ht, ha, hb⟩, _, hs, hcm, hf, hmp, hG⟩ := hx
    unfold spd
    have i4 : atI [D.str "table", .int t, .int s, tb c f, .int a, .int b] 4 = some (.int a) := rfl
    have i5 : atI [D.str "table", .int t, .int s, tb c f, .int a, .int b] 5 = some (.int b) := rfl
    walk_at "sx"
    rw [i4]
    walk_at "sx"
    rw [hp]
    walk_at "sx"
    rw [atI_cs (by omega)]
    walk_at "sx"
    rw [i5]
    walk_at "sx"
    rw [hp]
    walk_at "sx"
    rw [atI_cs (by omega)]
    walk_at "sx"
    refine (interpolate_ok (hG) (hc a) (hc b)).ok ?_
    rintro _ _ ⟨⟨X, rfl⟩, rfl⟩
    have hp2 := get_old (Z := X) hp
    walk_at "sx"
    rw [hp2]
    walk_at "sx"
    rw [atI_cs (by omega)]
    walk_at "sx"
    rw [mulG_l (by omega)]
    walk_at "sx"
    rw [modG_ok (by omega)]
    walk_at "sx"
    rw [hp2]
    dsimp only
    rw [ixN_cg (by omega)]
    walk_at "sx"
    refine ⟨X, ?_⟩
    rw [map_setI, List.set_append_left _ _ (List.getElem?_eq_some_iff.mp hp).1]
    rfl
  | add t c fs =>
    obtain ⟨ht, hcc, hl, hfs⟩ := hx
    unfold spd
    walk_at "sx"
    refine wp_forL (fun i r M1 => ∃ (a b : Option D), r = [some (.tup [.str "add", .int t, .int c, .tup (fs.map fcD)]), some (.ref p), some (.ref q), some (.int m), some (.int (addV m mem gs c (fs.take i))), a, b, none, none] ∧ M1 = M) ?_ ?_ ?_
    · rintro i d r M1 hd ⟨a, b, rfl, rfl⟩
      rw [List.getElem?_map] at hd
      obtain ⟨x, hx, rfl⟩ := Option.map_eq_some_iff.mp hd
      have hxm := hfs x (List.mem_of_getElem? hx)
      have hav := addV_in (mem := mem) (gs := gs) (show 0 < m by omega) (fs.take i) c hcc
      have e : addV m mem gs c (fs.take (i + 1)) = addV m mem gs c (fs.take i) * facV mem gs x % m := by
        unfold addV
        rw [List.take_succ, hx, List.foldl_append]
        rfl
      rw [e]
      generalize addV m mem gs c (fs.take i) = av at hav ⊢
      cases x with
      | cell j =>
        simp only [FcOk] at hxm
        unfold fcD facV
        refine ⟨by simp, _, rfl, ?_⟩
        generalize D.tup [.str "add", .int t, .int c, .tup (fs.map fcD)] = T
        walk_at "sx"
        rw [hp]
        walk_at "sx"
        rw [atI_cs (by omega)]
        walk_at "sx"
        rw [mulG_l (by omega)]
        walk_at "sx"
        rw [modG_ok (by omega)]
        walk_at "sx"
        exact ⟨_, _, rfl⟩
      | inp j =>
        simp only [FcOk] at hxm
        unfold fcD facV
        refine ⟨by simp, _, rfl, ?_⟩
        generalize D.tup [.str "add", .int t, .int c, .tup (fs.map fcD)] = T
        walk_at "sx"
        rw [hq]
        walk_at "sx"
        rw [atI_cs (by omega)]
        walk_at "sx"
        rw [mulG_l (by omega)]
        walk_at "sx"
        rw [modG_ok (by omega)]
        walk_at "sx"
        exact ⟨_, _, rfl⟩
    · rintro r M1 ⟨a, b, rfl, rfl⟩
      rw [List.length_map, List.take_length]
      refine ⟨by simp, ?_⟩
      walk_at "sx"
      rw [hp]
      walk_at "sx"
      rw [atI_cs (by omega)]
      walk_at "sx"
      rw [modG_ok (by omega)]
      walk_at "sx"
      rw [hp]
      dsimp only
      rw [ixN_cg (by omega)]
      walk_at "sx"
      refine ⟨[], ?_⟩
      rw [List.append_nil, map_setI]
      rfl
    · exact ⟨none, none, rfl, rfl⟩
/-! ### run -/
theorem check_numbers_ok {N m : Int} {M : Hd} {q : Nat} {gs : List Int} (hg : M[q]? = some (.lst (gs.map D.int))) (hl : (gs.length : Int) = N) (hgs : ∀ v ∈ gs, 0 ≤ v ∧ v < m) : m_check_numbers [.ref q, .int N, .int m] M = some (.ok .non M) := by
  refine wp_eq ?_
  refine wp_mir rfl ?_
  unfold g_check_numbers
  walk_at "ds"
  refine Wp.imp (Q := fun o => o = (Fl.nx [some (.ref q), some (.int N), some (.int m), none], M)) ?_ ?_
  · walk_at "di"
    rw [isiG_ref hg]
    walk_at "di"
    rw [hg]
    walk_at "di"
    rw [List.length_map, if_neg (by simp; omega)]
    first | done | trivial | rfl
  rintro _ rfl
  walk_at "ds"
  rw [hg]
  walk_at "ds"
  refine wp_forL (fun i r M1 => ∃ (b : Option D), r = [some (.ref q), some (.int N), some (.int m), b] ∧ M1 = M) ?_ ?_ ?_
  · rintro i d r M1 hd ⟨b, rfl, rfl⟩
    rw [List.getElem?_map] at hd
    obtain ⟨n, hn, rfl⟩ := Option.map_eq_some_iff.mp hd
    refine ⟨by simp only [still_one, still_nil, and_true]; exact hg, _, rfl, ?_⟩
    walk_at "di"
    rw [is_number_yes (hgs n (List.mem_of_getElem? hn))]
    walk_at "di"
    exact ⟨_, rfl⟩
  · rintro r M1 ⟨b, rfl, rfl⟩
    refine ⟨by simp only [still_one, still_nil, and_true]; exact hg, ?_⟩
    walk_at "ds"
  · exact ⟨none, rfl, rfl⟩
def BadV (M : Hd) (n m : Int) (d : D) : Prop := (∃ ds, d = .tup ds) ∨ ∃ i ds, d = .ref i ∧ M[i]? = some (.lst ds) ∧ (∀ e ∈ ds, Itm e) ∧ ((ds.length : Int) ≠ n ∨ ∃ e, e ∈ ds ∧ numB m e = false)
theorem check_numbers_bad {N m : Int} {M : Hd} {d : D} (hb : BadV M N m d) : m_check_numbers [d, .int N, .int m] M = some (.er "BadMemory" M) := by
  refine wp_eq ?_
  refine wp_mir rfl ?_
  unfold g_check_numbers
  have hst : startD N_check_numbers.length [d, .int N, .int m] = [some d, some (.int N), some (.int m), none] := rfl
  rw [hst]
  rcases hb with ⟨ds, rfl⟩ | ⟨q, ds, rfl, hg, hi, hb⟩
  · walk_at "di"
  rw [wp_seq]
  by_cases hl : (ds.length : Int) = N
  rotate_left
  · walk_at "di"
    rw [isiG_ref hg]
    walk_at "di"
    rw [hg]
    walk_at "di"
    rw [if_pos hl]
    first | done | trivial | rfl
  refine Wp.imp (Q := fun o => o = (Fl.nx [some (.ref q), some (.int N), some (.int m), none], M)) ?_ ?_
  · walk_at "di"
    rw [isiG_ref hg]
    walk_at "di"
    rw [hg]
    walk_at "di"
    rw [if_neg (by simp; omega)]
    first | done | trivial | rfl
  rintro _ rfl
  obtain ⟨e, he, hne⟩ : ∃ e, e ∈ ds ∧ numB m e = false := hb.resolve_left (fun h => h hl)
  walk_at "ds"
  rw [hg]
  walk_at "ds"
  refine wp_forL (fun i r M1 => ∃ (b : Option D), r = [some (.ref q), some (.int N), some (.int m), b] ∧ M1 = M ∧ ∀ (j : Nat) x, j < i → ds[j]? = some x → numB m x = true) ?_ ?_ ?_
  · rintro i d r M1 hd ⟨b, rfl, rfl, hs⟩
    refine ⟨by simp only [still_one, still_nil, and_true]; exact hg, _, rfl, ?_⟩
    walk_at "di"
    rw [is_number_itm (hi d (List.mem_of_getElem? hd))]
    walk_at "di"
    cases hnb : numB m d with
    | false => walk_at "di"
    | true =>
      walk_at "di"
      refine ⟨_, rfl, fun j x hj hx => ?_⟩
      by_cases hji : j = i
      · subst hji
        rw [hd] at hx
        cases hx
        exact hnb
      · exact hs j x (by omega) hx
  · rintro r M1 ⟨b, rfl, rfl, hs⟩
    obtain ⟨k, hk⟩ := List.getElem?_of_mem he
    rw [hs k e (List.getElem?_eq_some_iff.mp hk).1 hk] at hne
    cases hne
  · exact ⟨none, rfl, rfl, fun j x h => by omega⟩
theorem fldP {m n k : Int} {s i : Nat} {M : Hd} (h : M[i]? = some (progO m n k s)) : fldG "Program" "modulus" (.ref i) M = some (.ok (.int m) M) ∧ fldG "Program" "cells" (.ref i) M = some (.ok (.int n) M) ∧ fldG "Program" "inputs" (.ref i) M = some (.ok (.int k) M) ∧ fldG "Program" "steps" (.ref i) M = some (.ok (.ref s) M) := by
  unfold progO at h
  refine ⟨?_, ?_, ?_, ?_⟩
  · unfold fldG
    dsimp only
    rw [h]
    rfl
  · unfold fldG
    dsimp only
    rw [h]
    dsimp only
    rw [if_pos rfl, lk_cells]
    rfl
  · unfold fldG
    dsimp only
    rw [h]
    dsimp only
    rw [if_pos rfl, lk_inputs]
    rfl
  · unfold fldG
    dsimp only
    rw [h]
    dsimp only
    rw [if_pos rfl, lk_steps]
    rfl
/-- the memory behind steps -/
def ran (m : Int) (gs mem : List Int) (xs : List Sp_) : List Int := xs.foldl (doS m gs) mem
theorem ran_take {m : Int} {gs mem : List Int} {xs : List Sp_} {i : Nat} {x : Sp_} (h : xs[i]? = some x) : ran m gs mem (xs.take (i + 1)) = doS m gs (ran m gs mem (xs.take i)) x := by
  unfold ran
  rw [List.take_succ, h, List.foldl_append]
  rfl
theorem ran_inv {m : Int} {gs : List Int} (hm : 0 < m) : ∀ (xs : List Sp_) (mem : List Int), (∀ v ∈ mem, 0 ≤ v ∧ v < m) → (ran m gs mem xs).length = mem.length ∧ ∀ v ∈ ran m gs mem xs, 0 ≤ v ∧ v < m
  | [], mem, h => ⟨rfl, h⟩
  | x :: xs, mem, h => by
    obtain ⟨h1, h2⟩ := ran_inv hm xs (doS m gs mem x) (doS_in hm h)
    exact ⟨h1.trans doS_len, h2⟩
/-! ### gcd -/
theorem half_step {a b : Nat} (h : b ≤ a) (hb : 0 < b) : 2 * (b * (a % b)) ≤ a * b := by
  have h1 : a % b < b := Nat.mod_lt _ hb
  have h2 : b * (a / b) + a % b = a := Nat.div_add_mod a b
  have h3 : 1 ≤ a / b := (Nat.one_le_div_iff hb).mpr h
  have h4 : b * 1 ≤ b * (a / b) := Nat.mul_le_mul_left b h3
  have h5 : 2 * (a % b) ≤ a := by omega
  calc 2 * (b * (a % b)) = b * (2 * (a % b)) := by rw [Nat.mul_left_comm]
    _ ≤ b * a := Nat.mul_le_mul_left b h5
    _ = a * b := Nat.mul_comm b a
/-! ### drawn steps -/
/-! ### drawn primes, tables, factors -/
theorem eight_bd {p : Int} (hp : p ∈ ([2, 3, 5, 7, 11, 13, 101, 999999937] : List Int)) : 2 ≤ p ∧ p ≤ 1000000000 := by
  simp only [List.mem_cons, List.mem_nil_iff, or_false] at hp
  omega
theorem rot {t n j : Int} (ht : 0 ≤ t ∧ t < n) (hj : 1 ≤ j ∧ j < n) : (t + j) % n = if t + j < n then t + j else t + j - n := by
  split
  · exact Int.emod_eq_of_lt (by omega) (by omega)
  · have e : t + j = (t + j - n) + n := by omega
    rw [e, Int.add_emod_right, Int.emod_eq_of_lt (by omega) (by omega)]
    omega
theorem rot_ok {t n j : Int} (ht : 0 ≤ t ∧ t < n) (hj : 1 ≤ j ∧ j < n) : (0 ≤ (t + j) % n ∧ (t + j) % n < n) ∧ (t + j) % n ≠ t := by
  rw [rot ht hj]
  split <;> omega
theorem mod_in (x : Int) {n : Int} (h : 0 < n) : 0 ≤ x % n ∧ x % n < n := ⟨Int.emod_nonneg _ (by omega), Int.emod_lt_of_pos _ h⟩
/-! ### drawn steps, programs -/
theorem tupleG_of {M : Hd} {i : Nat} {ds : List D} (h : M[i]? = some (.lst ds)) : tupleG (.ref i) M = some (.ok (.tup ds) M) := by
  unfold tupleG
  dsimp only
  rw [h]
theorem wp_if2 {t : TF} {f g : SF} {r : Ev} {M : Hd} {Q : Fl × Hd → Prop} {c : Prop} (h : Wp (t r M) fun o => ∃ b, o = .ok b M ∧ (b = true ↔ c)) (hf : c → Wp (f r M) Q) (hg : ¬ c → Wp (g r M) Q) : Wp (sIf t f g r M) Q := by
  obtain ⟨o, e, b, rfl, hb⟩ := h
  unfold sIf
  rw [e, exB_ok]
  cases b with
  | true => exact hf (hb.mp rfl)
  | false => exact hg fun q => nomatch hb.mpr q
def Sp_.isT : Sp_ → Bool
  | .table .. => true
  | _ => false
theorem fc_list {t n k : Int} : ∀ {ds : List D}, (∀ d ∈ ds, ∃ x, d = fcD x ∧ FcOk t n k x) → ∃ fs : List Fc, ds = fs.map fcD ∧ ∀ x ∈ fs, FcOk t n k x
  | [], _ => ⟨[], rfl, fun x h => nomatch h⟩
  | d :: ds, h => by
    obtain ⟨x, rfl, hx⟩ := h d List.mem_cons_self
    obtain ⟨fs, rfl, hf⟩ := fc_list (fun e he => h e (List.mem_cons_of_mem _ he))
    refine ⟨x :: fs, rfl, fun y hy => ?_⟩
    rcases List.mem_cons.mp hy with rfl | hy
    · exact hx
    · exact hf y hy
theorem sp_list {P : Sp_ → Prop} : ∀ {ds : List D}, (∀ d ∈ ds, ∃ x, d = spd x ∧ P x) → ∃ xs : List Sp_, ds = xs.map spd ∧ ∀ x ∈ xs, P x
  | [], _ => ⟨[], rfl, fun x h => nomatch h⟩
  | d :: ds, h => by
    obtain ⟨x, rfl, hx⟩ := h d List.mem_cons_self
    obtain ⟨fs, rfl, hf⟩ := sp_list (P := P) (fun e he => h e (List.mem_cons_of_mem _ he))
    refine ⟨x :: fs, rfl, fun y hy => ?_⟩
    rcases List.mem_cons.mp hy with rfl | hy
    · exact hx
    · exact hf y hy
theorem eDic_ok {ks : List Str} {g : AF} {r : Ev} {M : Hd} {ds : List D} (hg : g r (M ++ [.dic []]) = some (.ok ds (M ++ [.dic []]))) (hl : ds.length = ks.length) (hn : ks.Nodup) (h15 : ks.length ≤ 15) : eDic ks g r M = some (.ok (.ref M.length) (M ++ [.dic (ks.zip ds)])) := by
  unfold eDic
  rw [hg, bnd_ok, get_here]
  dsimp only
  rw [if_pos ⟨hl, hn, h15⟩, set_here]
/-- a drawn program -/
structure PgOk (m n k : Int) (xs : List Sp_) (most : Int) : Prop where
  hm : 2 ≤ m ∧ m ≤ 1000000000
  hn : 1 ≤ n ∧ n ≤ 60
  hk : 0 ≤ k ∧ k ≤ 60
  hl : (xs.length : Int) ≤ most
  hx : ∀ x ∈ xs, SpOk m n k x
  ht : (∃ x ∈ xs, x.isT = true) → Prm m
/-! ### try -/
def asQ (i : Nat) (Q : Fl × Hd → Prop) : Fl × Hd → Prop := fun o => match o with
  | (.nx r, M) => Q (.nx (clr i r), M)
  | (.bk r, M) => Q (.bk (clr i r), M)
  | (.ct r, M) => Q (.ct (clr i r), M)
  | (.rt d, M) => Q (.rt d, M)
  | (.xx _ _, _) => False
theorem asQ_nx {i : Nat} {Q : Fl × Hd → Prop} {r : Ev} {M : Hd} : asQ i Q (.nx r, M) ↔ Q (.nx (clr i r), M) := Iff.rfl
theorem asQ_rt {i : Nat} {Q : Fl × Hd → Prop} {d : D} {M : Hd} : asQ i Q (.rt d, M) ↔ Q (.rt d, M) := Iff.rfl
theorem asQ_ct {i : Nat} {Q : Fl × Hd → Prop} {r : Ev} {M : Hd} : asQ i Q (.ct r, M) ↔ Q (.ct (clr i r), M) := Iff.rfl
/-- nothing is raised, or what is caught -/
def tyQ (sub : Str → Option Bool) (i : Nat) (suite : Str → SF) (Q : Fl × Hd → Prop) : Fl × Hd → Prop := fun o => match o with
  | (.xx c r, M) => sub c = some true ∧ Wp (suite c (clr i r) M) (asQ i Q)
  | o => Q o
section
variable {sub : Str → Option Bool} {i : Nat} {suite : Str → SF} {Q : Fl × Hd → Prop} {r : Ev} {M : Hd} {c : Str} {d : D} {body : SF}
theorem tyQ_xx : tyQ sub i suite Q (.xx c r, M) ↔ (sub c = some true ∧ Wp (suite c (clr i r) M) (asQ i Q)) := Iff.rfl
theorem tyQ_nx : tyQ sub i suite Q (.nx r, M) ↔ Q (.nx r, M) := Iff.rfl
theorem tyQ_rt : tyQ sub i suite Q (.rt d, M) ↔ Q (.rt d, M) := Iff.rfl
theorem wp_tryAs (h : Wp (body r M) (tyQ sub i suite Q)) : Wp (sTryAs sub i body suite r M) Q := by
  obtain ⟨o, e, q⟩ := h
  unfold sTryAs
  rw [e]
  obtain ⟨fl, M1⟩ := o
  cases fl with
  | xx c r1 =>
    obtain ⟨h1, o2, e2, q2⟩ := q
    dsimp only
    rw [h1]
    dsimp only
    rw [e2]
    obtain ⟨fl2, M2⟩ := o2
    cases fl2 with
    | xx c r2 => exact q2.elim
    | nx r2 => exact ⟨_, rfl, q2⟩
    | bk r2 => exact ⟨_, rfl, q2⟩
    | ct r2 => exact ⟨_, rfl, q2⟩
    | rt d => exact ⟨_, rfl, q2⟩
  | nx r1 => exact ⟨_, rfl, q⟩
  | bk r1 => exact ⟨_, rfl, q⟩
  | ct r1 => exact ⟨_, rfl, q⟩
  | rt d => exact ⟨_, rfl, q⟩
end
/-! ### drawn memories -/
theorem wp_makesR {n : Int} (hn : 0 ≤ n ∧ n < 16777216) {v : Nat} {own : List Nat} {f : EF} {r : Ev} {M0 M R : Hd} {it : IF} {Q : D → Prop}
    (hf : ∀ (k : Int) M X, 0 ≤ k → k < n → Dr M (R ++ X) → Wp (f ((wip r own).set v (some (.int k))) M) (okQ fun d M1 => Q d ∧ ∃ Y, Dr M1 (R ++ (X ++ Y)))) (e : it r M0 = some (.ok (intsD 0 n.toNat, []) M)) (h : Dr M R) :
    Wp (eLc it (.nm v) tYes f own r M0) (okQ fun d M1 => d = .ref (R.length + 2) ∧ ∃ ds Y, ds.length = n.toNat ∧ (∀ d ∈ ds, Q d) ∧ Dr M1 (R ++ .lst ds :: Y)) := by
  refine wp_eLc ?_
  rw [e, wp_some]
  dsimp only
  refine wp_lcL (fun i M1 => ∃ acc Y, Dr M1 (R ++ .lst acc :: Y) ∧ acc.length = i ∧ ∀ d ∈ acc, Q d) ?_ ?_ ?_
  · rintro i d M1 hd ⟨acc, Y, hD, hl, hq⟩
    obtain ⟨hi, rfl⟩ := ints_get hd
    refine ⟨by simp, _, rfl, ?_⟩
    unfold tYes
    rw [wp_some]
    refine ⟨(fun h => nomatch h), fun _ => ?_⟩
    refine (hf (0 + i) M1 _ (by omega) (by omega) hD).ok ?_
    rintro d M2 ⟨hd, X, hD2⟩
    rw [List.cons_append] at hD2
    refine ⟨acc, ?_, by omega, acc ++ [d], Y ++ X, ?_, by simp [hl], ?_⟩
    · rw [h.len, hD2.get, get_mid]
    · have := hD2.set R.length (.lst (acc ++ [d]))
      rw [h.len]
      rwa [set_mid] at this
    · intro e he
      rcases List.mem_append.mp he with he | he
      · exact hq e he
      · rw [List.mem_singleton] at he; subst he; exact hd
  · rintro M1 ⟨acc, Y, hD, hl, hq⟩
    refine ⟨by simp, ?_⟩
    rw [ints_length] at hl
    exact ⟨by rw [h.len], acc, Y, hl, hq, hD⟩
  · exact ⟨[], [], h.app _, rfl, (fun _ h => nomatch h)⟩
theorem lst_ints {P : Int → Prop} : ∀ {ds : List D}, (∀ d ∈ ds, ∃ i, d = .int i ∧ P i) → ∃ gs : List Int, ds = gs.map D.int ∧ ∀ v ∈ gs, P v
  | [], _ => ⟨[], rfl, fun v h => nomatch h⟩
  | d :: ds, h => by
    obtain ⟨i, rfl, hi⟩ := h d List.mem_cons_self
    obtain ⟨gs, rfl, hg⟩ := lst_ints (P := P) (fun e he => h e (List.mem_cons_of_mem _ he))
    refine ⟨i :: gs, rfl, fun v hv => ?_⟩
    rcases List.mem_cons.mp hv with rfl | hv
    · exact hi
    · exact hg v hv
theorem lk_modulus {m n k : Int} {p : Nat} : List.lookup ("modulus" : Str) [("modulus", D.int m), ("cells", .int n), ("inputs", .int k), ("steps", .ref p)] = some (.int m) := rfl
theorem add_ref {M : Hd} {i j : Nat} {a b : List D} (ha : M[i]? = some (.lst a)) (hb : M[j]? = some (.lst b)) (hl : a.length + b.length ≤ 16777216) : addG (.ref i) (.ref j) M = some (.ok (.ref M.length) (M ++ [.lst (a ++ b)])) := by
  rw [addG_r, ha, hb]
  exact if_pos hl
theorem prime_of_eight {m : Int} (hm : Prm m) (hb : m < 2000000000) (M : Hd) : m_is_prime [.int m] M = some (.ok (.bl true) M) := by
  obtain ⟨o, e, q⟩ := is_prime_ok (n := m) (M := M) hb
  cases o with
  | er c M1 => exact q.elim
  | ok d M1 =>
    obtain ⟨rfl, b, rfl, hb2⟩ := q
    rw [e, hb2.mpr hm]
theorem PgOk.pr {m n k most : Int} {xs : List Sp_} (ok : PgOk m n k xs most) : (∀ x ∈ xs, ∀ t s c f a b, x ≠ .table t s c f a b) ∨ ∀ M, m_is_prime [.int m] M = some (.ok (.bl true) M) := by
  by_cases ht : ∃ x ∈ xs, x.isT = true
  · exact .inr (prime_of_eight (ok.ht ht) (by have := ok.hm; omega))
  · refine .inl fun x hx t s c f a b e => ht ⟨x, hx, ?_⟩
    rw [e]
    rfl
theorem eMeth_go {c m : Str} {mm : List D → Hd → Option (Rs D)} {fa : EF} {g : AF} {r : Ev} {M M1 M2 : Hd} {i : Nat} {fs : List (Str × D)} {ds : List D} (h1 : fa r M = some (.ok (.ref i) M1)) (h2 : M1[i]? = some (.ins c fs)) (h3 : fs.lookup m = none) (h4 : g r M1 = some (.ok ds M2)) : eMeth c m mm fa g r M = mm (.ref i :: ds) M2 := by
  unfold eMeth
  rw [h1, bnd_ok]
  dsimp only
  rw [h2]
  dsimp only
  rw [if_pos ⟨rfl, h3⟩, h4, bnd_ok]
theorem lk_no {s : Str} {m n k p : D} (h1 : (s == "modulus") = false) (h2 : (s == "cells") = false) (h3 : (s == "inputs") = false) (h4 : (s == "steps") = false) : List.lookup s [(("modulus" : Str), m), ("cells", n), ("inputs", k), ("steps", p)] = none := by
  rw [List.lookup_cons, h1]
  dsimp only
  rw [List.lookup_cons, h2]
  dsimp only
  rw [List.lookup_cons, h3]
  dsimp only
  rw [List.lookup_cons, h4]
  rfl
theorem lk_run {m n k p : D} : List.lookup ("run" : Str) [(("modulus" : Str), m), ("cells", n), ("inputs", k), ("steps", p)] = none := lk_no (by decide +kernel) (by decide +kernel) (by decide +kernel) (by decide +kernel)
/-! ### inverses of steps -/
open Classical in
/-- the number that gives 1 times u -/
noncomputable def ivN (m u : Int) : Int := if h : ∃ v : Int, (0 ≤ v ∧ v < m) ∧ v * u % m = 1 then h.choose else 0
theorem inv_ex {u m : Int} (hm : 2 ≤ m) (hb : m ≤ 1000000000) (hu : 0 ≤ u ∧ u < m) (hg : Nat.gcd u.toNat m.toNat = 1) : ∃ v : Int, (0 ≤ v ∧ v < m) ∧ v * u % m = 1 := by
  obtain ⟨u', rfl⟩ := Int.eq_ofNat_of_zero_le hu.1
  obtain ⟨m', rfl⟩ := Int.eq_ofNat_of_zero_le (show 0 ≤ m by omega)
  obtain ⟨o, e, q⟩ := inverse_ok (n := u') (m := m') (M := []) (by omega) (by omega) (by omega)
  cases o with
  | er c M => exact q.elim
  | ok d M =>
    obtain ⟨_, hv⟩ := q
    rcases hv with ⟨hv, rfl⟩ | ⟨hv, v, rfl, h1, h2, h3⟩
    · exact absurd hg (by rw [Int.toNat_natCast, Int.toNat_natCast]; omega)
    · exact ⟨v, ⟨h1, h2⟩, h3⟩
theorem ivN_ok {u m : Int} (hm : 2 ≤ m) (hb : m ≤ 1000000000) (hu : 0 ≤ u ∧ u < m) (hg : Nat.gcd u.toNat m.toNat = 1) : (0 ≤ ivN m u ∧ ivN m u < m) ∧ ivN m u * u % m = 1 := by
  have h := inv_ex hm hb hu hg
  unfold ivN
  rw [dif_pos h]
  exact h.choose_spec
theorem gcd_of {u v m : Int} (hm : 2 ≤ m) (hu : 0 ≤ u) (h : v * u % m = 1) : Nat.gcd u.toNat m.toNat = 1 := by
  obtain ⟨u', rfl⟩ := Int.eq_ofNat_of_zero_le hu
  obtain ⟨m', rfl⟩ := Int.eq_ofNat_of_zero_le (show 0 ≤ m by omega)
  rw [Int.toNat_natCast, Int.toNat_natCast]
  exact gcd_one h
noncomputable def invS (m : Int) : Sp_ → Sp_
  | .add t c fs => .add t (-c % m) fs
  | .scale t u => .scale t (ivN m u)
  | .swap a b => .swap a b
  | .table t s c f a b => .table t (m - s) c f a b
theorem mul_comm_mod {a b m : Int} (h : a * b % m = 1) : b * a % m = 1 := by rw [Int.mul_comm]; exact h
theorem invS_ok {m n k : Int} {x : Sp_} (hm : 2 ≤ m ∧ m ≤ 1000000000) (h : SpOk m n k x) : SpOk m n k (invS m x) := by
  cases x with
  | add t c fs => exact ⟨h.1, ⟨Int.emod_nonneg _ (by omega), Int.emod_lt_of_pos _ (by omega)⟩, h.2.2⟩
  | scale t u =>
    obtain ⟨h1, h2⟩ := ivN_ok hm.1 hm.2 h.2.1 h.2.2
    exact ⟨h.1, h1, gcd_of (v := u) hm.1 h1.1 (mul_comm_mod h2)⟩
  | swap a b => exact h
  | table t s c f a b =>
    obtain ⟨h1, h2, h3, h4⟩ := h
    exact ⟨h1, h2, by omega, h4⟩
theorem invS_inv {m n k : Int} {x : Sp_} (hm : 2 ≤ m ∧ m ≤ 1000000000) (h : SpOk m n k x) : invS m (invS m x) = x := by
  cases x with
  | add t c fs =>
    show Sp_.add t (-(-c % m) % m) fs = _
    obtain ⟨_, hc, _⟩ := h
    congr 1
    by_cases h0 : c = 0
    · subst h0
      simp
    · have e : -c % m = m - c := by
        rw [show -c = (m - c) + m * (-1) by omega, Int.add_mul_emod_self_left, Int.emod_eq_of_lt (by omega) (by omega)]
      rw [e, show -(m - c) = c + m * (-1) by omega, Int.add_mul_emod_self_left, Int.emod_eq_of_lt (by omega) (by omega)]
  | scale t u =>
    show Sp_.scale t (ivN m (ivN m u)) = _
    obtain ⟨_, hu, hg⟩ := h
    obtain ⟨h1, h2⟩ := ivN_ok hm.1 hm.2 hu hg
    obtain ⟨h3, h4⟩ := ivN_ok hm.1 hm.2 h1 (gcd_of (v := u) hm.1 h1.1 (mul_comm_mod h2))
    rw [inv_eq hm.1 h4 (mul_comm_mod h2) h3 hu]
  | swap a b => rfl
  | table t s c f a b =>
    show Sp_.table t (m - (m - s)) c f a b = _
    rw [show m - (m - s) = s by omega]
/-! ### what a step and its inverse do -/
def pF (mem gs : List Int) (fs : List Fc) : Int := fs.foldl (fun a x => a * facV mem gs x) 1
theorem foldl_mul {mem gs : List Int} : ∀ (fs : List Fc) (a : Int), fs.foldl (fun a x => a * facV mem gs x) a = a * pF mem gs fs
  | [], a => by show a = a * 1; omega
  | x :: fs, a => by
    show fs.foldl _ (a * facV mem gs x) = a * fs.foldl _ (1 * facV mem gs x)
    rw [foldl_mul fs, foldl_mul fs (1 * facV mem gs x), Int.one_mul, Int.mul_assoc]
theorem addV_eq {m : Int} {mem gs : List Int} : ∀ (fs : List Fc) (c : Int), addV m mem gs c fs % m = c * pF mem gs fs % m
  | [], c => by show c % m = c * 1 % m; rw [Int.mul_one]
  | x :: fs, c => by
    show addV m mem gs (c * facV mem gs x % m) fs % m = _
    rw [addV_eq fs]
    show _ = c * (fs.foldl (fun a x => a * facV mem gs x) (1 * facV mem gs x)) % m
    rw [foldl_mul, Int.one_mul, ← Int.mul_assoc, Int.mul_emod, Int.emod_emod, ← Int.mul_emod]
theorem cg_set {l : List Int} {t i v : Int} (ht : 0 ≤ t) (hi : 0 ≤ i) (h : i ≠ t) : cg (l.set t.toNat v) i = cg l i := by
  unfold cg
  rw [List.getD_eq_getElem?_getD, List.getD_eq_getElem?_getD, List.getElem?_set_ne (by omega)]
theorem cg_set_self {l : List Int} {t v : Int} (ht : 0 ≤ t ∧ t < l.length) : cg (l.set t.toNat v) t = v := by
  unfold cg
  rw [List.getD_eq_getElem?_getD, List.getElem?_set_self (by omega)]
  rfl
theorem set_cg {l : List Int} {t : Int} (ht : 0 ≤ t ∧ t < l.length) : l.set t.toNat (cg l t) = l := by
  have hl : t.toNat < l.length := by omega
  have : cg l t = l[t.toNat] := by
    unfold cg
    rw [List.getD_eq_getElem?_getD, List.getElem?_eq_getElem hl]
    rfl
  rw [this, List.set_getElem_self]
theorem addV_set {m : Int} {mem gs : List Int} {t n k v : Int} : ∀ (fs : List Fc) (c : Int), (∀ x ∈ fs, FcOk t n k x) → 0 ≤ t → addV m (mem.set t.toNat v) gs c fs = addV m mem gs c fs
  | [], c, _, _ => rfl
  | x :: fs, c, h, ht => by
    have hx := h x List.mem_cons_self
    have e : facV (mem.set t.toNat v) gs x = facV mem gs x := by
      cases x with
      | cell i => exact cg_set ht hx.1.1 hx.2
      | inp i => rfl
    show addV m (mem.set t.toNat v) gs (c * facV (mem.set t.toNat v) gs x % m) fs = addV m mem gs (c * facV mem gs x % m) fs
    rw [e]
    exact addV_set fs _ (fun y hy => h y (List.mem_cons_of_mem _ hy)) ht
theorem back_mod {m a b c : Int} (hm : 0 < m) (ha : 0 ≤ a ∧ a < m) (h : (b + c) % m = 0) : ((a + b) % m + c) % m = a := by
  rw [Int.emod_add_emod, Int.add_assoc, Int.add_emod, h, Int.add_zero, Int.emod_emod, Int.emod_eq_of_lt ha.1 ha.2]
theorem doS_inv {m n k : Int} {x : Sp_} {mem gs : List Int} (hm : 2 ≤ m ∧ m ≤ 1000000000) (h : SpOk m n k x) (hn : (mem.length : Int) = n) (hmem : ∀ v ∈ mem, 0 ≤ v ∧ v < m) : doS m gs (doS m gs mem x) (invS m x) = mem := by
  have hc := cg_in (show 0 < m by omega) hmem
  cases x with
  | add t c fs =>
    obtain ⟨ht, hcc, _, hfs⟩ := h
    show (mem.set t.toNat ((cg mem t + addV m mem gs c fs) % m)).set t.toNat ((cg (mem.set t.toNat ((cg mem t + addV m mem gs c fs) % m)) t + addV m (mem.set t.toNat ((cg mem t + addV m mem gs c fs) % m)) gs (-c % m) fs) % m) = mem
    rw [cg_set_self (by omega), addV_set fs _ hfs ht.1, List.set_set, back_mod (by omega) (hc t), set_cg (by omega)]
    rw [Int.add_emod, addV_eq, addV_eq, ← Int.add_emod, ← Int.add_mul, Int.mul_emod, Int.add_comm c, Int.emod_add_emod, Int.add_left_neg, Int.zero_emod, Int.zero_mul, Int.zero_emod]
  | scale t u =>
    obtain ⟨ht, hu, hg⟩ := h
    obtain ⟨h1, h2⟩ := ivN_ok hm.1 hm.2 hu hg
    show (mem.set t.toNat (cg mem t * u % m)).set t.toNat (cg (mem.set t.toNat (cg mem t * u % m)) t * ivN m u % m) = mem
    rw [cg_set_self (by omega), List.set_set]
    have e : cg mem t * u % m * ivN m u % m = cg mem t := by
      rw [Int.mul_emod (cg mem t * u % m), Int.emod_emod, ← Int.mul_emod, Int.mul_assoc, Int.mul_emod, mul_comm_mod h2, Int.mul_one, Int.emod_emod, Int.emod_eq_of_lt (hc t).1 (hc t).2]
    rw [e, set_cg (by omega)]
  | swap a b =>
    obtain ⟨ha, hb, hne⟩ := h
    show (((mem.set a.toNat (cg mem b)).set b.toNat (cg mem a)).set a.toNat (cg ((mem.set a.toNat (cg mem b)).set b.toNat (cg mem a)) b)).set b.toNat (cg ((mem.set a.toNat (cg mem b)).set b.toNat (cg mem a)) a) = mem
    rw [cg_set_self (by rw [List.length_set]; omega), cg_set hb.1 ha.1 hne, cg_set_self (by omega)]
    rw [List.set_comm (cg mem a) (cg mem a) (show b.toNat ≠ a.toNat by omega), List.set_set, List.set_set, set_cg (by omega)]
    exact set_cg (by omega)
  | table t s c f a b =>
    obtain ⟨⟨ht, ha, hb⟩, ⟨e1, e2, e3⟩, hs, _⟩ := h
    show (mem.set t.toNat ((cg mem t + s * Tt m (cg mem a) (cg mem b) c f c) % m)).set t.toNat ((cg (mem.set t.toNat ((cg mem t + s * Tt m (cg mem a) (cg mem b) c f c) % m)) t + (m - s) * Tt m (cg (mem.set t.toNat ((cg mem t + s * Tt m (cg mem a) (cg mem b) c f c) % m)) a) (cg (mem.set t.toNat ((cg mem t + s * Tt m (cg mem a) (cg mem b) c f c) % m)) b) c f c) % m) = mem
    rw [cg_set_self (by omega), cg_set ht.1 ha.1 (Ne.symm e1), cg_set ht.1 hb.1 (Ne.symm e2), List.set_set, back_mod (by omega) (hc t), set_cg (by omega)]
    rw [← Int.add_mul, show s + (m - s) = m by omega, Int.mul_emod_right]
/-! ### programs backwards -/
noncomputable def backS (m : Int) (xs : List Sp_) : List Sp_ := (xs.map (invS m)).reverse
theorem backS_len {m : Int} {xs : List Sp_} : (backS m xs).length = xs.length := by unfold backS; rw [List.length_reverse, List.length_map]
theorem backS_ok {m n k : Int} {xs : List Sp_} (hm : 2 ≤ m ∧ m ≤ 1000000000) (h : ∀ x ∈ xs, SpOk m n k x) : ∀ x ∈ backS m xs, SpOk m n k x := fun x hx => by
  obtain ⟨y, hy, rfl⟩ := List.mem_map.mp (List.mem_reverse.mp hx)
  exact invS_ok hm (h y hy)
theorem backS_back {m n k : Int} {xs : List Sp_} (hm : 2 ≤ m ∧ m ≤ 1000000000) (h : ∀ x ∈ xs, SpOk m n k x) : backS m (backS m xs) = xs := by
  unfold backS
  rw [← List.map_reverse, List.reverse_reverse, List.map_map]
  conv => rhs; rw [← List.map_id xs]
  exact List.map_congr_left fun x hx => invS_inv hm (h x hx)
theorem ran_app {m : Int} {gs mem : List Int} {xs ys : List Sp_} : ran m gs mem (xs ++ ys) = ran m gs (ran m gs mem xs) ys := by
  unfold ran
  rw [List.foldl_append]
theorem ran_back {m n k : Int} {gs : List Int} (hm : 2 ≤ m ∧ m ≤ 1000000000) : ∀ (xs : List Sp_) (mem : List Int), (∀ x ∈ xs, SpOk m n k x) → (mem.length : Int) = n → (∀ v ∈ mem, 0 ≤ v ∧ v < m) → ran m gs (ran m gs mem xs) (backS m xs) = mem
  | [], mem, _, _, _ => rfl
  | x :: xs, mem, h, hn, hmem => by
    have hx := h x List.mem_cons_self
    have ih := ran_back (gs := gs) hm xs (doS m gs mem x) (fun y hy => h y (List.mem_cons_of_mem _ hy)) (by rw [doS_len]; exact hn) (doS_in (by omega) hmem)
    have e : backS m (x :: xs) = backS m xs ++ [invS m x] := by
      unfold backS
      rw [List.map_cons, List.reverse_cons]
    rw [e, ran_app]
    show ran m gs (ran m gs (ran m gs (doS m gs mem x) xs) (backS m xs)) [invS m x] = mem
    rw [ih]
    exact doS_inv hm hx hn hmem
theorem back_ran {m n k : Int} {gs : List Int} (hm : 2 ≤ m ∧ m ≤ 1000000000) (xs : List Sp_) (mem : List Int) (h : ∀ x ∈ xs, SpOk m n k x) (hn : (mem.length : Int) = n) (hmem : ∀ v ∈ mem, 0 ≤ v ∧ v < m) : ran m gs (ran m gs mem (backS m xs)) xs = mem := by
  have := ran_back (gs := gs) hm (backS m xs) mem (backS_ok hm h) hn hmem
  rwa [backS_back hm h] at this
/-! ### programs made of programs -/
theorem lk_part {m n k p : D} : List.lookup ("part" : Str) [(("modulus" : Str), m), ("cells", n), ("inputs", k), ("steps", p)] = none := lk_no (by decide +kernel) (by decide +kernel) (by decide +kernel) (by decide +kernel)
theorem lk_called {m n k p : D} : List.lookup ("called_back" : Str) [(("modulus" : Str), m), ("cells", n), ("inputs", k), ("steps", p)] = none := lk_no (by decide +kernel) (by decide +kernel) (by decide +kernel) (by decide +kernel)
theorem negO_go {mm : List D → Hd → Option (Rs D)} {M : Hd} {i s : Nat} {m n k : Int} (h : M[i]? = some (progO m n k s)) : negO "Program" mm (.ref i) M = mm [.ref i] M := by
  unfold progO at h
  unfold negO
  dsimp only
  rw [h]
  dsimp only
  rw [if_pos rfl]
theorem inverse_step_ok {m n k : Int} {x : Sp_} {M : Hd} (hm : 2 ≤ m ∧ m ≤ 1000000000) (h : SpOk m n k x) : m_inverse_step [spd x, .int m] M = some (.ok (spd (invS m x)) M) := by
  refine wp_eq ?_
  refine wp_mir rfl ?_
  unfold g_inverse_step
  cases x with
  | add t c fs =>
    unfold spd invS
    walk_at "sx"
    rw [modG_ok (by omega)]
    walk_at "sx"
  | scale t u =>
    obtain ⟨ht, hu, hg⟩ := h
    obtain ⟨h1, h2⟩ := ivN_ok hm.1 hm.2 hu hg
    unfold spd invS
    walk_at "sx"
    obtain ⟨u', rfl⟩ := Int.eq_ofNat_of_zero_le hu.1
    obtain ⟨m', rfl⟩ := Int.eq_ofNat_of_zero_le (show 0 ≤ m by omega)
    refine (inverse_ok (by omega) (by omega) (by omega)).ok ?_
    rintro v _ ⟨rfl, hv⟩
    rcases hv with ⟨hv, rfl⟩ | ⟨hv, v, rfl, v0, v1, v2⟩
    · exact absurd hg (by rw [Int.toNat_natCast, Int.toNat_natCast]; omega)
    · walk_at "sx"
      rw [inv_eq hm.1 v2 h2 ⟨v0, v1⟩ h1]
  | swap a b =>
    unfold spd invS
    walk_at "sx"
  | table t s c f a b =>
    unfold spd invS
    walk_at "sx"
    have e : sliceD (.tup [.str "table", .int t, .int s, tb c f, .int a, .int b]) (some 3) none M = some (.ok (.tup [tb c f, .int a, .int b]) M) := by
      unfold sliceD
      dsimp only
      rw [cut_from (by simp)]
      rfl
    rw [e]
    walk_at "sx"
    rw [add_tup (by simp)]
    walk_at "sx"
    first | done | rfl
theorem ap2 {M A B : Hd} : M ++ A ++ B = M ++ (A ++ B) := List.append_assoc M A B
theorem ap3 {M A B C : Hd} : M ++ A ++ B ++ C = M ++ (A ++ B ++ C) := by simp only [List.append_assoc]
theorem ap4 {M A B C E : Hd} : M ++ A ++ B ++ C ++ E = M ++ (A ++ B ++ C ++ E) := by simp only [List.append_assoc]
/-- a program stands at z -/
structure PrgAt (M : Hd) (z s : Nat) (m n k : Int) (xs : List Sp_) : Prop where
  at_ : M[z]? = some (progO m n k s)
  st : M[s]? = some (.lst (xs.map spd))
theorem PrgAt.app {M X : Hd} {z s : Nat} {m n k : Int} {xs : List Sp_} (h : PrgAt M z s m n k xs) : PrgAt (M ++ X) z s m n k xs := ⟨get_old h.at_, get_old h.st⟩
theorem PgOk.mono {m n k a b : Int} {xs : List Sp_} (h : PgOk m n k xs a) (hab : a ≤ b) : PgOk m n k xs b := ⟨h.hm, h.hn, h.hk, Int.le_trans h.hl hab, h.hx, h.ht⟩
theorem ht_of {m n k : Int} {xs : List Sp_} (h : ∀ x ∈ xs, SpOk m n k x) : (∃ x ∈ xs, x.isT = true) → Prm m := by
  rintro ⟨x, hx, ht⟩
  have := h x hx
  cases x with
  | table t s c f a b => exact this.2.2.2.2.2.1
  | add t c fs => cases ht
  | scale t c => cases ht
  | swap t c => cases ht
theorem PgOk.of {m n k z z' : Int} {xs ys : List Sp_} (h : PgOk m n k xs z) (hl : (ys.length : Int) ≤ z') (hy : ∀ x ∈ ys, SpOk m n k x) : PgOk m n k ys z' := ⟨h.hm, h.hn, h.hk, hl, hy, ht_of hy⟩
theorem PgOk.back {m n k z : Int} {xs : List Sp_} (h : PgOk m n k xs z) : PgOk m n k (backS m xs) z := h.of (by rw [backS_len]; exact h.hl) (backS_ok h.hm h.hx)
theorem PgOk.take {m n k z : Int} {xs : List Sp_} (h : PgOk m n k xs z) (j : Nat) : PgOk m n k (xs.take j) z := h.of (by have := h.hl; rw [List.length_take]; omega) fun x hx => h.hx x (List.mem_of_mem_take hx)
theorem make_ok {m n k z : Int} {xs : List Sp_} {q : Nat} {g : AF} {r : Ev} {M M1 : Hd} (ok : PgOk m n k xs z) (hz : z ≤ 20000) (hg : g r M = some (.ok [.int m, .int n, .int k, .ref q] M1)) (hq : M1[q]? = some (.lst (xs.map spd))) :
    eMake "Program" m_Program___init__ g r M = some (.ok (.ref M1.length) (M1 ++ [progO m n k (M1.length + 1), .lst (xs.map spd)])) := by
  unfold eMake
  rw [hg, bnd_ok]
  have h1 : (M1 ++ [O.ins "Program" []])[M1.length]? = some (.ins "Program" []) := get_here
  have h2 : (M1 ++ [O.ins "Program" []])[q]? = some (.lst (xs.map spd)) := get_old hq
  have hlt := (List.getElem?_eq_some_iff.mp hq).1
  obtain ⟨o, e, hq2⟩ := init_ok ok.hm ok.hn ok.hk (check_steps_ok ok.hm (by have := ok.hl; omega) ok.hx (ok.pr.imp id fun h => h _) h2) h1 h2 (by omega)
  cases o with
  | er c M2 => exact hq2.elim
  | ok d M2 =>
    obtain ⟨rfl, rfl⟩ := hq2
    rw [e]
    dsimp only
    congr 2
    rw [List.append_assoc]
    show (M1 ++ O.ins "Program" [] :: [O.lst (xs.map spd)]).set M1.length _ = _
    rw [set_here, List.length_append]
    rfl
theorem make_at {m n k : Int} {xs : List Sp_} {M1 : Hd} : PrgAt (M1 ++ [progO m n k (M1.length + 1), .lst (xs.map spd)]) M1.length (M1.length + 1) m n k xs := by
  refine ⟨get_here, ?_⟩
  have := get_here (M := M1 ++ [progO m n k (M1.length + 1)]) (o := O.lst (xs.map spd)) (Z := [])
  rw [List.append_assoc, List.length_append] at this
  exact this
theorem revG_of {M : Hd} {i : Nat} {ds : List D} (h : M[i]? = some (.lst ds)) : revG (.ref i) M = some (.ok (.ref M.length) (M ++ [.lst ds.reverse])) := by
  unfold revG
  dsimp only
  rw [h]
/-! ### congruences -/
def Cg (m x y : Int) : Prop := ∃ k, x = y + m * k
theorem Cg.rfl' {m x : Int} : Cg m x x := ⟨0, by omega⟩
theorem Cg.of_eq {m x y : Int} (h : x = y) : Cg m x y := h ▸ Cg.rfl'
theorem Cg.symm {m x y : Int} (h : Cg m x y) : Cg m y x := by
  obtain ⟨k, rfl⟩ := h
  exact ⟨-k, by grind⟩
theorem Cg.trans {m x y z : Int} (h : Cg m x y) (g : Cg m y z) : Cg m x z := by
  obtain ⟨k, rfl⟩ := h
  obtain ⟨l, rfl⟩ := g
  exact ⟨k + l, by grind⟩
theorem Cg.add {m x y a b : Int} (h : Cg m x y) (g : Cg m a b) : Cg m (x + a) (y + b) := by
  obtain ⟨k, rfl⟩ := h
  obtain ⟨l, rfl⟩ := g
  exact ⟨k + l, by grind⟩
theorem Cg.sub {m x y a b : Int} (h : Cg m x y) (g : Cg m a b) : Cg m (x - a) (y - b) := by
  obtain ⟨k, rfl⟩ := h
  obtain ⟨l, rfl⟩ := g
  exact ⟨k - l, by grind⟩
theorem Cg.mul {m x y a b : Int} (h : Cg m x y) (g : Cg m a b) : Cg m (x * a) (y * b) := by
  obtain ⟨k, rfl⟩ := h
  obtain ⟨l, rfl⟩ := g
  exact ⟨k * b + y * l + m * k * l, by grind⟩
theorem Cg.neg {m x y : Int} (h : Cg m x y) : Cg m (-x) (-y) := by
  obtain ⟨k, rfl⟩ := h
  exact ⟨-k, by grind⟩
theorem Cg.mdi {m x y : Int} (h : Cg m x y) : Cg m (x % m) y := by
  refine Cg.trans ⟨-(x / m), ?_⟩ h
  rw [Int.emod_def]
  grind
theorem Cg.eq {m x y : Int} (h : Cg m x y) : x % m = y % m := by
  obtain ⟨k, rfl⟩ := h
  rw [Int.add_mul_emod_self_left]
theorem Cg.val {m x y : Int} (h : Cg m x y) (hy : 0 ≤ y ∧ y < m) : x % m = y := by rw [h.eq, Int.emod_eq_of_lt hy.1 hy.2]
theorem cg_of {m x y a b : Int} (h : Cg m x a) (g : Cg m y b) (e : a = b) : Cg m x y := h.trans ((Cg.of_eq e).trans g.symm)
local macro_rules | `(tactic| walk_at "cg") => `(tactic| repeat (first | with_reducible apply Cg.mdi | with_reducible apply Cg.add | with_reducible apply Cg.sub | with_reducible apply Cg.mul | with_reducible apply Cg.neg | exact Cg.rfl'))
/-! ### adding to a cell -/
def addAt (m : Int) (mem : List Int) (t x : Int) : List Int := mem.set t.toNat ((cg mem t + x) % m)
section
variable {m : Int} {mem : List Int} {t s x y : Int}
theorem addAt_len : (addAt m mem t x).length = mem.length := by unfold addAt; rw [List.length_set]
theorem addAt_in (hm : 0 < m) (h : ∀ v ∈ mem, 0 ≤ v ∧ v < m) : ∀ v ∈ addAt m mem t x, 0 ≤ v ∧ v < m := mem_set h ⟨Int.emod_nonneg _ (by omega), Int.emod_lt_of_pos _ hm⟩
theorem addAt_ne (ht : 0 ≤ t) (hs : 0 ≤ s) (h : s ≠ t) : cg (addAt m mem t x) s = cg mem s := cg_set ht hs h
theorem addAt_self (ht : 0 ≤ t ∧ t < mem.length) : cg (addAt m mem t x) t = (cg mem t + x) % m := cg_set_self ht
theorem addAt_add (ht : 0 ≤ t ∧ t < mem.length) : addAt m (addAt m mem t x) t y = addAt m mem t (x + y) := by
  unfold addAt
  rw [cg_set_self ht, List.set_set, Int.emod_add_emod, Int.add_assoc]
theorem addAt_comm (ht : 0 ≤ t) (hs : 0 ≤ s) (h : s ≠ t) : addAt m (addAt m mem t x) s y = addAt m (addAt m mem s y) t x := by
  unfold addAt
  rw [cg_set ht hs h, cg_set hs ht (Ne.symm h), List.set_comm _ _ (show t.toNat ≠ s.toNat by omega)]
theorem addAt_cg (h : Cg m x y) : addAt m mem t x = addAt m mem t y := by
  unfold addAt
  rw [(Cg.rfl'.add h).eq]
theorem addAt_zero (ht : 0 ≤ t ∧ t < mem.length) (hi : ∀ v ∈ mem, 0 ≤ v ∧ v < m) (hm : 0 < m) (h : Cg m x 0) : addAt m mem t x = mem := by
  rw [addAt_cg h]
  unfold addAt
  have := cg_in hm hi t
  rw [Int.add_zero, Int.emod_eq_of_lt this.1 this.2, set_cg ht]
end
/-! ### drawn numbers, factors; the law's gcd -/
theorem number6_ok {M R : Hd} {m : Int} (h : Dr M R) (hm : 2 ≤ m) : Wp (m__law_number [.ref 1, .int m] M) (okQ fun d M1 => ∃ c, d = .int c ∧ (0 ≤ c ∧ c < m) ∧ Dr M1 R) := by
  refine wp_mir rfl ?_
  unfold g__law_number
  walk_at "ds"
  refine (draw_ok h).ok ?_
  rintro _ M1 ⟨a, rfl, _, _, hD⟩
  walk_at "ds"
  refine wp_if2 (c := a % 6 = 0) ?_ (fun _ => ?_) (fun _ => ?_)
  · walk_at "di"
    exact ⟨_, rfl, decide_eq_true_iff⟩
  · walk_at "ds"
    exact ⟨_, rfl, by omega, hD⟩
  walk_at "ds"
  refine wp_if2 (c := a % 6 = 1) ?_ (fun _ => ?_) (fun _ => ?_)
  · walk_at "di"
    exact ⟨_, rfl, decide_eq_true_iff⟩
  · walk_at "ds"
    exact ⟨_, rfl, by omega, hD⟩
  walk_at "ds"
  refine wp_if2 (c := a % 6 = 2) ?_ (fun _ => ?_) (fun _ => ?_)
  · walk_at "di"
    exact ⟨_, rfl, decide_eq_true_iff⟩
  · walk_at "ds"
    exact ⟨_, rfl, by omega, hD⟩
  walk_at "ds"
  refine (draw_ok hD).ok ?_
  rintro _ M2 ⟨b, rfl, _, _, hD⟩
  walk_at "ds"
  refine (draw_ok hD).ok ?_
  rintro _ M3 ⟨c, rfl, _, _, hD⟩
  walk_at "ds"
  rw [modG_ok (by omega)]
  walk_at "ds"
  exact ⟨_, rfl, mod_in _ (by omega), hD⟩
theorem factors_ok {M R : Hd} {t n k : Int} (h : Dr M R) (ht : 0 ≤ t ∧ t < n) (hk : 0 ≤ k) : Wp (m__law_factors [.ref 1, .int n, .int k, .int t] M) (okQ fun d M1 => ∃ (fs : List Fc) (X : Hd), d = .tup (fs.map fcD) ∧ fs.length ≤ 3 ∧ (∀ x ∈ fs, FcOk t n k x) ∧ Dr M1 (R ++ X)) := by
  refine wp_mir rfl ?_
  unfold g__law_factors
  walk_at "ds"
  have hl := h.len
  have hD := h.app [O.lst (([] : List Fc).map fcD)]
  have e0 : M ++ [O.lst []] = M ++ [O.lst (([] : List Fc).map fcD)] := rfl
  rw [e0, hl]
  refine (draw_ok hD).ok ?_
  rintro _ M1 ⟨a, rfl, a0, _, hD⟩
  walk_at "ds"
  have ha : 0 ≤ a % 4 ∧ a % 4 < 4 := by omega
  rw [if_smP (by omega)]
  generalize a % 4 = c at ha ⊢
  have hc4 : c.toNat ≤ 3 := by omega
  refine wp_forL (fun i r M1 => ∃ (fs : List Fc) (x5 : Option D), r = [some (.ref 1), some (.int n), some (.int k), some (.int t), some (.ref (R.length + 2)), x5] ∧ fs.length ≤ i ∧ (∀ x ∈ fs, FcOk t n k x) ∧ Dr M1 (R ++ [.lst (fs.map fcD)])) ?_ ?_ ?_
  · rintro i d r M1 hd ⟨fs, x5, rfl, hfl, hfs, hD⟩
    obtain ⟨hi, rfl⟩ := ints_get hd
    refine ⟨by simp, _, rfl, ?_⟩
    have put : ∀ {M2 : Hd} (x : Fc) (v : Option D), FcOk t n k x → Dr M2 (R ++ [.lst (fs.map fcD)]) → ∃ (gs : List Fc) (x5 : Option D), [some (.ref 1), some (.int n), some (.int k), some (.int t), some (.ref (R.length + 2)), v] = [some (.ref 1), some (.int n), some (.int k), some (.int t), some (.ref (R.length + 2)), x5] ∧ gs.length ≤ i + 1 ∧ (∀ x ∈ gs, FcOk t n k x) ∧ Dr (M2.set (R.length + 2) (.lst (fs.map fcD ++ [fcD x]))) (R ++ [.lst (gs.map fcD)]) := by
      intro M2 x v hx hD
      have hD := hD.set R.length (.lst (fs.map fcD ++ [fcD x]))
      rw [set_mid] at hD
      refine ⟨fs ++ [x], v, rfl, by simp; omega, fun y hy => ?_, by rw [List.map_append]; exact hD⟩
      rcases List.mem_append.mp hy with hy | hy
      · exact hfs y hy
      · rw [List.mem_singleton] at hy
        subst hy
        exact hx
    have hlt : (fs.map fcD).length < 16777216 := by rw [List.length_map]; omega
    have cell : ∀ {M2 : Hd} {Q : Fl × Hd → Prop}, Dr M2 (R ++ [.lst (fs.map fcD)]) → (∀ (M3 : Hd) (gs : List Fc), gs.length ≤ i + 1 → (∀ x ∈ gs, FcOk t n k x) → Dr M3 (R ++ [.lst (gs.map fcD)]) → Q (.nx [some (.ref 1), some (.int n), some (.int k), some (.int t), some (.ref (R.length + 2)), some (.int (0 + (i : Int)))], M3)) →
        Wp (sIf (tVal (eOp gtG (eVar 1) (eC (.int 1)))) (sDrop (eLm appendG (eVar 4) (aCons (eTup (aCons (eC (.str "cell")) (aCons (eOp modG (eOp addG (eOp addG (eVar 3) (eC (.int 1))) (eOp modG (eCall m__law_draw (aCons (eVar 0) aNil)) (eOp subG (eVar 1) (eC (.int 1))))) (eVar 1)) aNil))) aNil))) sNil [some (.ref 1), some (.int n), some (.int k), some (.int t), some (.ref (R.length + 2)), some (.int (0 + (i : Int)))] M2) Q := by
      intro M2 Q hD hQ
      refine wp_if2 (c := 1 < n) ?_ (fun h1 => ?_) (fun _ => ?_)
      · walk_at "di"
        exact ⟨_, rfl, decide_eq_true_iff⟩
      · have g1 : M2[R.length + 2]? = some (.lst (fs.map fcD)) := by rw [hD.get]; exact get_here
        walk_at "ds"
        rw [g1]
        walk_at "ds"
        refine (draw_ok hD).ok ?_
        rintro _ M3 ⟨b, rfl, _, _, hD⟩
        have g1 : M3[R.length + 2]? = some (.lst (fs.map fcD)) := by rw [hD.get]; exact get_here
        walk_at "ds"
        rw [modG_ok (by omega)]
        walk_at "ds"
        rw [modG_ok (by omega)]
        walk_at "ds"
        have := mod_in b (show 0 < n - 1 by omega)
        have hr := rot_ok (j := 1 + b % (n - 1)) ht (by omega)
        rw [← Int.add_assoc] at hr
        rw [g1]
        dsimp only
        rw [if_pos hlt]
        walk_at "ds"
        obtain ⟨gs, _, _, h2, h3, h4⟩ := put (.cell ((t + 1 + b % (n - 1)) % n)) none hr hD
        exact hQ _ gs h2 h3 h4
      · unfold sNil
        rw [wp_some]
        exact hQ _ fs (by omega) hfs hD
    have fin : ∀ (M3 : Hd) (gs : List Fc), gs.length ≤ i + 1 → (∀ x ∈ gs, FcOk t n k x) → Dr M3 (R ++ [.lst (gs.map fcD)]) → ∃ (fs : List Fc) (x5 : Option D), [some (.ref 1), some (.int n), some (.int k), some (.int t), some (.ref (R.length + 2)), some (.int (0 + (i : Int)))] = [some (.ref 1), some (.int n), some (.int k), some (.int t), some (.ref (R.length + 2)), x5] ∧ fs.length ≤ i + 1 ∧ (∀ x ∈ fs, FcOk t n k x) ∧ Dr M3 (R ++ [.lst (fs.map fcD)]) := fun M3 gs a b c => ⟨gs, _, rfl, a, b, c⟩
    by_cases hk0 : 0 < k
    · unfold sIf
      rw [wp_exB]
      simp only [tAnd, tVal, eOp, eCall, aCons, aNil, eVar, eC, wp_bnd, wp_some, List.getElem?_cons_zero, List.getElem?_cons_succ, List.set_cons_succ, List.set_cons_zero, gtG_int, bOf, decide_eq_true hk0, if_true]
      refine (draw_ok hD).ok ?_
      rintro _ M2 ⟨b, rfl, _, _, hD⟩
      dsimp only
      rw [modG_ok (by decide), wp_some]
      simp only [eqG_int, bOf, wp_some, decide_eq_true_eq]
      by_cases hb : b % 2 = 0
      · rw [if_pos hb]
        have g1 : M2[R.length + 2]? = some (.lst (fs.map fcD)) := by rw [hD.get]; exact get_here
        walk_at "ds"
        rw [g1]
        walk_at "ds"
        refine (draw_ok hD).ok ?_
        rintro _ M3 ⟨e, rfl, _, _, hD⟩
        have g1 : M3[R.length + 2]? = some (.lst (fs.map fcD)) := by rw [hD.get]; exact get_here
        walk_at "ds"
        rw [modG_ok (by omega)]
        walk_at "ds"
        rw [g1]
        dsimp only
        rw [if_pos hlt]
        walk_at "ds"
        obtain ⟨gs, _, _, h2, h3, h4⟩ := put (.inp (e % k)) none (mod_in e hk0) hD
        exact fin _ gs h2 h3 h4
      · rw [if_neg hb]
        refine cell hD ?_
        intro M3 gs a b c
        exact fin M3 gs a b c
    · unfold sIf
      rw [wp_exB]
      simp only [tAnd, tVal, eOp, eVar, eC, wp_bnd, wp_some, List.getElem?_cons_zero, List.getElem?_cons_succ, List.set_cons_succ, List.set_cons_zero, gtG_int, bOf, decide_eq_false hk0, Bool.false_eq_true, if_false, wp_some]
      refine cell hD ?_
      intro M3 gs a b c
      exact fin M3 gs a b c
  · rintro r M1 ⟨fs, x5, rfl, hfl, hfs, hD⟩
    rw [ints_length] at hfl
    refine ⟨by simp, ?_⟩
    have g1 : M1[R.length + 2]? = some (.lst (fs.map fcD)) := by rw [hD.get]; exact get_here
    walk_at "ds"
    rw [tupleG_of g1]
    walk_at "ds"
    exact ⟨fs, _, rfl, by omega, hfs, hD⟩
  · exact ⟨[], none, rfl, Nat.le_refl _, (fun _ h => nomatch h), hD⟩
/-! ### the law's gcd -/
theorem gcd120_ok {a b : Nat} {M : Hd} (h : a * b ≤ 2 ^ 100) : Wp (m__law_gcd [.int a, .int b] M) (okQ fun d M1 => M1 = M ∧ d = .int (Nat.gcd a b)) := by
  refine wp_mir rfl ?_
  unfold g__law_gcd
  walk_at "di"
  refine wp_forL (fun i r M1 => ∃ (x y : Nat) (c d : Option D), r = [some (.int x), some (.int y), c, d] ∧ M1 = M ∧ Nat.gcd x y = Nat.gcd a b ∧ (y ≤ x ∨ i = 0) ∧ x * y * 2 ^ (i - 1) ≤ 2 ^ 100) ?_ ?_ ?_
  · rintro i d r M1 hd ⟨x, y, c, e, rfl, rfl, hg, hle, hp⟩
    refine ⟨by simp, _, rfl, ?_⟩
    walk_at "di"
    split
    · rename_i hy
      have : y = 0 := by omega
      subst this
      rw [Nat.gcd_zero_right] at hg
      rw [hg]
    · rename_i hy
      have hy0 : 0 < y := by omega
      walk_at "di"
      rw [modG_ok (by omega)]
      walk_at "di"
      refine ⟨y, x % y, _, _, by rw [Int.natCast_emod], by rw [Nat.gcd_comm y, ← Nat.gcd_rec, Nat.gcd_comm]; exact hg, .inl (Nat.le_of_lt (Nat.mod_lt _ hy0)), ?_⟩
      rcases Nat.lt_or_ge x y with hx | hx
      · have hi : i = 0 := by omega
        subst hi
        rw [Nat.mod_eq_of_lt hx, Nat.mul_comm y]
        exact hp
      · have hs := half_step hx hy0
        rcases Nat.eq_zero_or_pos i with hi | hi
        · subst hi
          simp only [Nat.zero_add, Nat.sub_self, Nat.pow_zero, Nat.mul_one] at hp ⊢
          omega
        · have e : 2 ^ (i + 1 - 1) = 2 * 2 ^ (i - 1) := by
            rw [Nat.add_sub_cancel, ← Nat.pow_succ']
            congr 1
            omega
          rw [e]
          calc y * (x % y) * (2 * 2 ^ (i - 1)) = 2 * (y * (x % y)) * 2 ^ (i - 1) := by ac_rfl
            _ ≤ x * y * 2 ^ (i - 1) := Nat.mul_le_mul_right _ hs
            _ ≤ _ := hp
  · rintro r M1 ⟨x, y, c, e, rfl, rfl, hg, hle, hp⟩
    refine ⟨by simp, ?_⟩
    rw [ints_length] at hle hp
    walk_at "di"
    have hxy : y ≤ x := hle.resolve_right (by decide)
    have h0 : x * y = 0 := by
      apply Classical.byContradiction
      intro hne
      have h1 : 1 * 2 ^ 119 ≤ x * y * 2 ^ 119 := Nat.mul_le_mul_right _ (Nat.pos_of_ne_zero hne)
      have h2 : x * y * 2 ^ 119 ≤ 2 ^ 100 := hp
      have h3 : (2 : Nat) ^ 100 < 1 * 2 ^ 119 := by decide
      omega
    have hy : y = 0 := by
      rcases Nat.mul_eq_zero.mp h0 with h | h <;> omega
    subst hy
    rw [Nat.gcd_zero_right] at hg
    rw [hg]
  · exact ⟨a, b, none, none, rfl, rfl, rfl, .inr rfl, by simpa using h⟩
/-! ### primes up to 2000, drawn tables, drawn steps -/
def chkQ (p : Nat) : Bool := (List.range 45).all fun d => decide (d < 2) || decide (p < d * d) || decide (p % d ≠ 0)
def goodQ (p c : Nat) : Bool := (List.range c).all fun i => decide (pw p (aL p i i c) * aL p i i c % (p : Int) = 1)
theorem goodQ_all : ((List.range 2001).all fun p => decide (p < 2) || !chkQ p || (goodQ p 0 && goodQ p 1 && goodQ p 2 && (decide (p < 3) || goodQ p 3))) = true := by decide +kernel
theorem chkQ_of {p : Nat} (h : Prm p) : chkQ p = true := by
  unfold chkQ
  rw [List.all_eq_true]
  intro d hd
  have h1 := h.2 d
  by_cases h2 : d < 2
  · simp [h2]
  · by_cases h3 : p < d * d
    · simp [h3]
    · have h4 : (d : Int) * d ≤ p := by
        have : d * d ≤ p := by omega
        exact_mod_cast this
      have := h1 (by omega) h4
      have h5 : p % d ≠ 0 := fun e => this (by rw [← Int.natCast_emod, e]; rfl)
      simp [h5]
/-- a prime of which the law makes tables -/
def PrmG (p : Int) : Prop := Prm p ∧ (p ≤ 2000 ∨ p = 999999937)
theorem PrmG.good {p : Int} {c : Nat} (h : PrmG p) (hc : c ≤ 3) (hcp : (c : Int) ≤ p) : Good p c := by
  obtain ⟨hp, h2000 | rfl⟩ := h
  · have hp2 := hp.1
    obtain ⟨q, rfl⟩ := Int.eq_ofNat_of_zero_le (show 0 ≤ p by omega)
    have h0 := goodQ_all
    rw [List.all_eq_true] at h0
    have h3 := h0 q (List.mem_range.mpr (by omega))
    rw [decide_eq_false (show ¬ q < 2 by omega), chkQ_of hp] at h3
    simp only [Bool.not_true, Bool.false_or, Bool.and_eq_true] at h3
    obtain ⟨⟨⟨g0, g1⟩, g2⟩, g3⟩ := h3
    have hg : goodQ q c = true := by
      have : c = 0 ∨ c = 1 ∨ c = 2 ∨ c = 3 := by omega
      rcases this with rfl | rfl | rfl | rfl
      · exact g0
      · exact g1
      · exact g2
      · rw [decide_eq_false (show ¬ q < 3 by omega), Bool.false_or] at g3
        exact g3
    unfold goodQ at hg
    rw [List.all_eq_true] at hg
    exact ⟨by omega, by omega, by omega, fun i hi => of_decide_eq_true (hg i (List.mem_range.mpr hi))⟩
  · exact _root_.G.good (by simp) (by omega) hcp
theorem prm_iff2 {m : Int} (hm : 2 ≤ m) : (∀ k, 2 ≤ k → k < m → m % k ≠ 0) ↔ Prm m := by
  constructor
  · intro h
    refine ⟨hm, fun d h1 h2 => h d h1 ?_⟩
    have : 2 * d ≤ d * d := Int.mul_le_mul_of_nonneg_right h1 (by omega)
    omega
  · rintro ⟨_, h⟩ k h1 h2 h3
    have e : m = k * (m / k) := by
      have := Int.mul_ediv_add_emod m k
      omega
    generalize m / k = q at e
    by_cases hkk : k * k ≤ m
    · exact h k h1 hkk h3
    · have hq1 : 2 ≤ q := by
        rcases Int.lt_or_le q 2 with hq | hq
        · exfalso
          have h4 : k * q ≤ k * 1 := Int.mul_le_mul_of_nonneg_left (by omega) (by omega)
          omega
        · exact hq
      have hqk : q < k := by
        rcases Int.lt_or_le q k with hq | hq
        · exact hq
        · exfalso
          have : k * k ≤ k * q := Int.mul_le_mul_of_nonneg_left hq (by omega)
          omega
      have hqq : q * q ≤ m := by
        have : q * q ≤ k * q := Int.mul_le_mul_of_nonneg_right (by omega) (by omega)
        omega
      refine h q hq1 hqq ?_
      rw [e]
      exact Int.mul_emod_left k q
theorem is_primeG_ok {p : Int} {M : Hd} (hp : 2 ≤ p ∧ p ≤ 1000000000) : Wp (m__law_is_prime [.int p] M) (okQ fun d M1 => ∃ (b : Bool) (X : Hd), d = .bl b ∧ M1 = M ++ X ∧ (b = true → PrmG p)) := by
  refine wp_mir rfl ?_
  unfold g__law_is_prime
  walk_at "ds"
  refine wp_if2 (c := 2000 < p) ?_ (fun h2 => ?_) (fun h2 => ?_)
  · walk_at "di"
    exact ⟨_, rfl, decide_eq_true_iff⟩
  · walk_at "ds"
    refine ⟨_, [], rfl, by simp, fun h => ?_⟩
    have := of_decide_eq_true h
    subst this
    exact ⟨eight_prm (by simp), .inr rfl⟩
  walk_at "ds"
  refine (wp_comp (keep := fun d => match d with | .int k => decide (p % k = 0) | _ => false) (val := fun d => d) (ds := intsD 2 (p - 2).toNat) (gs := []) (M := M) ?_ (fun X => by simp) (by simp; omega) ?_).ok ?_
  · unfold rng2
    simp only [eC, eVar, bnd_ok, List.getElem?_cons_zero]
    exact if_pos ⟨by unfold Sm; omega, by unfold Sm; omega⟩
  · intro d hd Y
    obtain ⟨k, hk0⟩ := List.getElem?_of_mem hd
    obtain ⟨hk, rfl⟩ := ints_get hk0
    refine ⟨_, rfl, ?_⟩
    walk_at "di"
    rw [modG_ok (by omega)]
    walk_at "di"
    exact ⟨[], by simp, fun _ => ⟨[], by simp⟩⟩
  rintro _ _ ⟨rfl, Z, rfl⟩
  walk_at "ds"
  rw [get_here]
  walk_at "ds"
  refine ⟨_, _, rfl, rfl, fun h => ?_⟩
  have h := of_decide_eq_true h
  refine ⟨(prm_iff2 hp.1).mp fun k k1 k2 k3 => ?_, .inl (by omega)⟩
  have h := List.length_eq_zero_iff.mp (Int.natCast_eq_zero.mp h)
  rw [List.map_id', List.filter_eq_nil_iff] at h
  refine h (.int k) ?_ (by simp [k3])
  unfold intsD
  rw [List.mem_map]
  exact ⟨(k - 2).toNat, List.mem_range.mpr (by omega), by congr 1; omega⟩
theorem modulusG_ok {M R : Hd} (h : Dr M R) : Wp (m__law_modulus [.ref 1] M) (okQ fun d M1 => ∃ (m : Int) (X : Hd), d = .int m ∧ (2 ≤ m ∧ m ≤ 1000000000) ∧ Dr M1 (R ++ X)) := by
  refine wp_mir rfl ?_
  unfold g__law_modulus
  walk_at "ds"
  refine (draw_ok h).ok ?_
  rintro _ M1 ⟨a, rfl, _, _, hD⟩
  walk_at "ds"
  refine wp_if2 (c := a % 8 = 0) ?_ (fun _ => ?_) (fun _ => ?_)
  · walk_at "di"
    exact ⟨_, rfl, decide_eq_true_iff⟩
  · walk_at "ds"
    refine (draw_ok hD).ok ?_
    rintro _ M2 ⟨b, rfl, _, _, hD⟩
    walk_at "ds"
    refine (draw_ok hD).ok ?_
    rintro _ M3 ⟨c, rfl, _, _, hD⟩
    walk_at "ds"
    try rw [powG_10 (by decide) (by decide)]
    walk_at "ds"
    rw [modG_ok (by decide)]
    walk_at "ds"
    exact ⟨_, [], rfl, by omega, by rw [List.append_nil]; exact hD⟩
  walk_at "ds"
  have hl := hD.len
  have hD := hD.app [.lst [.int 2, .int 3, .int 5, .int 7, .int 10, .int 97, .int 1000000000, .int 999999937]]
  refine (draw_ok hD).ok ?_
  rintro _ M2 ⟨b, rfl, _, _, hD⟩
  walk_at "ds"
  simp only [hl, hD.get, get_app]
  have hpk : ∃ p : Int, atI [D.int 2, D.int 3, D.int 5, D.int 7, D.int 10, D.int 97, D.int 1000000000, D.int 999999937] (b % 8) = some (.int p) ∧ 2 ≤ p ∧ p ≤ 1000000000 := by
    have hc : b % 8 = 0 ∨ b % 8 = 1 ∨ b % 8 = 2 ∨ b % 8 = 3 ∨ b % 8 = 4 ∨ b % 8 = 5 ∨ b % 8 = 6 ∨ b % 8 = 7 := by omega
    rcases hc with e | e | e | e | e | e | e | e <;> rw [e]
    · exact ⟨2, atI_nn (by decide) rfl, by decide⟩
    · exact ⟨3, atI_nn (by decide) rfl, by decide⟩
    · exact ⟨5, atI_nn (by decide) rfl, by decide⟩
    · exact ⟨7, atI_nn (by decide) rfl, by decide⟩
    · exact ⟨10, atI_nn (by decide) rfl, by decide⟩
    · exact ⟨97, atI_nn (by decide) rfl, by decide⟩
    · exact ⟨1000000000, atI_nn (by decide) rfl, by decide⟩
    · exact ⟨999999937, atI_nn (by decide) rfl, by decide⟩
  obtain ⟨p, ep, hp⟩ := hpk
  rw [ep]
  walk_at "ds"
  exact ⟨p, _, rfl, hp, hD⟩
theorem look_ok {M R : Hd} {m n t k : Int} (h : Dr M R) (hm : PrmG m) (hm9 : m ≤ 1000000000) (hn : 3 ≤ n ∧ n ≤ 60) (ht : 0 ≤ t ∧ t < n) : Wp (m__law_look [.ref 1, .int m, .int n, .int t] M) (okQ fun d M1 => ∃ (x : Sp_) (X : Hd), d = spd x ∧ SpOk m n k x ∧ Dr M1 (R ++ X)) := by
  have hm2 := hm.1.1
  refine wp_mir rfl ?_
  unfold g__law_look
  walk_at "ds"
  refine (draw_ok h).ok ?_
  rintro _ M1 ⟨n1, rfl, h0, h1, hD⟩
  walk_at "ds"
  generalize hmin : (if m < 3 then m else 3 : Int) = mn
  have hmn : 1 ≤ mn ∧ mn ≤ 3 ∧ mn ≤ m := by subst hmin; split <;> omega
  rw [modG_ok (by omega)]
  walk_at "ds"
  have m0 := Int.emod_nonneg n1 (show mn ≠ 0 by omega)
  have m1 := Int.emod_lt_of_pos n1 (show 0 < mn by omega)
  obtain ⟨cc, hcc⟩ : ∃ cc : Nat, 1 + n1 % mn = cc := ⟨(1 + n1 % mn).toNat, by omega⟩
  rw [hcc]
  refine (wp_makes (n := cc) (Q := fun d => ∃ g, d = rw_ cc g ∧ ∀ j, j < cc → 0 ≤ g j ∧ g j < m) (by omega) ?_ (fun M => rfl) hD).ok ?_
  · intro k M R h0 h1 hD
    walk_at "ds"
    refine (wp_makes (n := cc) (Q := fun d => ∃ n : Int, d = .int n ∧ 0 ≤ n ∧ n < m) (by omega) ?_ (fun M => rfl) hD).ok ?_
    · intro k M R h0 h1 hD
      walk_at "ds"
      refine (number6_ok hD hm2).ok ?_
      rintro _ M1 ⟨n, rfl, hn, hD⟩
      exact ⟨⟨n, rfl, hn.1, hn.2⟩, [], by rw [List.append_nil]; exact hD⟩
    · rintro _ M1 ⟨rfl, ds, Y, hl, hq, hD⟩
      walk_at "ds"
      rw [tupleG_dr hD]
      walk_at "ds"
      obtain ⟨g, e1, e2⟩ := row_of (c := cc) (by omega) hq
      exact ⟨⟨g, e1, e2⟩, _, hD⟩
  rintro _ M2 ⟨rfl, ts, Y, hl, hq, hD⟩
  have hD0 := hD
  obtain ⟨F, e1, hF⟩ := tab_of (c := cc) (by omega) hq
  have gt : M2[R.length + 2]? = some (.lst ts) := by rw [hD.get]; exact get_mid
  have gt2 : (R ++ O.lst ts :: Y)[R.length]? = some (.lst ts) := get_mid
  have hR1 : ∃ Z, R ++ O.lst ts :: Y = R ++ Z := ⟨_, rfl⟩
  generalize R ++ O.lst ts :: Y = R1 at hD gt2 hR1
  walk_at "ds"
  refine (draw_ok hD).ok ?_
  rintro _ M3 ⟨a, rfl, _, _, hD⟩
  walk_at "ds"
  rw [modG_ok (by omega)]
  walk_at "ds"
  rw [modG_ok (by omega)]
  walk_at "ds"
  rw [modG_ok (by omega)]
  walk_at "ds"
  have ha := mod_in a (show 0 < n - 1 by omega)
  generalize a % (n - 1) = oa at ha ⊢
  have r1 := rot_ok (j := 1 + oa) ht (by omega)
  rw [← Int.add_assoc] at r1
  have r2 := rot_ok (j := 1) ht (by omega)
  have r3 := rot_ok (j := 2) ht (by omega)
  have r4 : (t + 1) % n ≠ (t + 2) % n := by
    rw [rot ht (by omega), rot ht (by omega)]
    split <;> split <;> omega
  generalize (t + 1 + oa) % n = q1 at r1 ⊢
  refine Wp.imp (Q := fun o => ∃ q2, o = (Fl.nx [some (.ref 1), some (.int m), some (.int n), some (.int t), some (.int cc), some (.ref (R.length + 2)), some (.int q1), some (.int q2), none, none], M3) ∧ ((0 ≤ q2 ∧ q2 < n) ∧ q2 ≠ t) ∧ q1 ≠ q2) ?_ ?_
  · refine wp_if2 (c := q1 = (t + 1) % n) ?_ (fun hc => ?_) (fun hc => ?_)
    · walk_at "di"
      exact ⟨_, rfl, decide_eq_true_iff⟩
    · walk_at "ds"
      rw [modG_ok (by omega)]
      walk_at "ds"
      exact ⟨_, rfl, r3, by rw [hc]; exact r4⟩
    · unfold sNil
      rw [wp_some]
      exact ⟨_, rfl, r2, hc⟩
  rintro _ ⟨q2, rfl, g2, g3⟩
  walk_at "ds"
  have hl3 := hD.len
  have hD := hD.app [.lst [.int 1, .int (m - 1)]]
  refine (draw_ok hD).ok ?_
  rintro _ M6 ⟨f, rfl, f0, f1, hD⟩
  walk_at "ds"
  simp only [hl3, hD.get, get_app]
  obtain ⟨s, es, hs⟩ : ∃ s, atI [D.int 1, D.int (m - 1)] (f % 2) = some (.int s) ∧ (s = 1 ∨ s = m - 1) := by
    have hc : f % 2 = 0 ∨ f % 2 = 1 := by omega
    rcases hc with e | e <;> rw [e]
    · exact ⟨1, atI_nn (by decide) rfl, .inl rfl⟩
    · exact ⟨m - 1, atI_nn (by decide) rfl, .inr rfl⟩
  rw [es]
  walk_at "ds"
  have hX : ∃ X, R1 ++ [O.lst [.int 1, .int (m - 1)]] = R ++ X := by
    obtain ⟨Z, hZ⟩ := hR1
    exact ⟨Z ++ [O.lst [.int 1, .int (m - 1)]], by rw [hZ, List.append_assoc]⟩
  obtain ⟨X, hX⟩ := hX
  have g9 : M6[R.length + 2]? = some (.lst ts) := by rw [hD.get]; exact get_app_l gt2
  rw [tupleG_of g9]
  walk_at "ds"
  rw [e1]
  rw [hX] at hD
  exact ⟨.table t s cc F q1 q2, X, rfl, ⟨⟨ht, r1.1, g2.1⟩, ⟨Ne.symm r1.2, Ne.symm g2.2, g3⟩, hs, by omega, hF, hm.1, hm.good (by omega) (by omega)⟩, hD⟩
theorem step60_ok {M R : Hd} {m n k : Int} (h : Dr M R) (hm : 2 ≤ m ∧ m ≤ 1000000000) (hn : 1 ≤ n ∧ n ≤ 60) (hk : 0 ≤ k ∧ k ≤ 60) :
    Wp (m__law_step [.ref 1, .int m, .int n, .int k] M) (okQ fun d M1 => ∃ (x : Sp_) (X : Hd), d = spd x ∧ SpOk m n k x ∧ Dr M1 (R ++ X)) := by
  refine wp_mir rfl ?_
  unfold g__law_step
  walk_at "ds"
  refine (draw_ok h).ok ?_
  rintro _ M1 ⟨tt, rfl, _, _, hD⟩
  walk_at "ds"
  rw [modG_ok (by omega)]
  walk_at "ds"
  have ht := mod_in tt (show 0 < n by omega)
  generalize tt % n = t at ht ⊢
  refine (draw_ok hD).ok ?_
  rintro _ M2 ⟨pk, rfl, _, _, hD⟩
  clear h
  walk_at "ds"
  -- swap
  refine Wp.imp (Q := fun o => (∃ (x : Sp_) (X M3 : Hd), o = (Fl.rt (spd x), M3) ∧ SpOk m n k x ∧ Dr M3 (R ++ X)) ∨ o = (Fl.nx [some (.ref 1), some (.int m), some (.int n), some (.int k), some (.int t), some (.int (pk % 8)), none], M2)) ?_ ?_
  · walk_at "di"
    by_cases p0 : pk % 8 = 0
    · rw [if_pos p0]
      walk_at "di"
      by_cases h1 : 1 < n
      · rw [if_pos h1]
        walk_at "di"
        refine (draw_ok hD).ok ?_
        rintro _ M1 ⟨a, rfl, _, _, hD⟩
        walk_at "di"
        rw [modG_ok (by omega)]
        walk_at "di"
        rw [modG_ok (by omega)]
        walk_at "di"
        have := mod_in a (show 0 < n - 1 by omega)
        have hr := rot_ok (j := 1 + a % (n - 1)) ht (by omega)
        rw [← Int.add_assoc] at hr
        exact .inl ⟨.swap t _, [], M1, rfl, ⟨ht, hr.1, fun e => hr.2 e.symm⟩, by rw [List.append_nil]; exact hD⟩
      · rw [if_neg h1]
        walk_at "di"
        first | exact .inr rfl | exact .inr trivial
    · rw [if_neg p0]
      walk_at "di"
      first | exact .inr rfl | exact .inr trivial
  rintro _ (⟨x, X, M3, rfl, hx, hD⟩ | rfl)
  · rw [nxQ_rt, fnQ_rt]
    exact ⟨x, X, rfl, hx, hD⟩
  walk_at "ds"
  -- scale
  refine Wp.imp (Q := fun o => (∃ (x : Sp_) (X M3 : Hd), o = (Fl.rt (spd x), M3) ∧ SpOk m n k x ∧ Dr M3 (R ++ X)) ∨ ∃ (M3 : Hd) (a6 : Option D), o = (Fl.nx [some (.ref 1), some (.int m), some (.int n), some (.int k), some (.int t), some (.int (pk % 8)), a6], M3) ∧ Dr M3 R) ?_ ?_
  · refine wp_if2 (c := pk % 8 = 1) ?_ (fun _ => ?_) (fun _ => ?_)
    · walk_at "di"
      exact ⟨_, rfl, decide_eq_true_iff⟩
    · walk_at "ds"
      refine (number6_ok hD hm.1).ok ?_
      rintro _ M3 ⟨u, rfl, hu, hD⟩
      walk_at "ds"
      obtain ⟨m', rfl⟩ := Int.eq_ofNat_of_zero_le (show 0 ≤ m by omega)
      obtain ⟨u', rfl⟩ := Int.eq_ofNat_of_zero_le hu.1
      have hmu : m' * u' ≤ 2 ^ 100 := Nat.le_trans (Nat.mul_le_mul (show m' ≤ 1000000000 by omega) (show u' ≤ 1000000000 by omega)) (by decide)
      unfold sIf
      rw [wp_exB]
      simp only [tVal, eOp, eCall, aCons, aNil, eVar, eC, wp_bnd, wp_some, List.getElem?_cons_zero, List.getElem?_cons_succ]
      refine (gcd120_ok (M := M3) hmu).ok ?_
      rintro _ _ ⟨rfl, rfl⟩
      dsimp only
      simp only [eqG_int, bOf, wp_some, decide_eq_true_eq]
      by_cases hg : ((Nat.gcd m' u' : Nat) : Int) = 1
      · rw [if_pos hg]
        walk_at "ds"
        refine .inl ⟨.scale t u', [], _, rfl, ⟨ht, hu, ?_⟩, by rw [List.append_nil]; exact hD⟩
        rw [Int.toNat_natCast, Int.toNat_natCast, Nat.gcd_comm]
        omega
      · rw [if_neg hg]
        unfold sNil
        rw [wp_some]
        exact .inr ⟨_, _, rfl, hD⟩
    · unfold sNil
      rw [wp_some]
      exact .inr ⟨_, _, rfl, hD⟩
  rintro _ (⟨x, X, M3, rfl, hx, hD⟩ | ⟨M3, a6, rfl, hD⟩)
  · rw [nxQ_rt, fnQ_rt]
    exact ⟨x, X, rfl, hx, hD⟩
  walk_at "ds"
  -- table
  refine Wp.imp (Q := fun o => (∃ (x : Sp_) (X M3 : Hd), o = (Fl.rt (spd x), M3) ∧ SpOk m n k x ∧ Dr M3 (R ++ X)) ∨ ∃ (M3 X : Hd), o = (Fl.nx [some (.ref 1), some (.int m), some (.int n), some (.int k), some (.int t), some (.int (pk % 8)), a6], M3) ∧ Dr M3 (R ++ X)) ?_ ?_
  · have no : ∀ X M4, Dr M4 (R ++ X) → Wp (sNil [some (.ref 1), some (.int m), some (.int n), some (.int k), some (.int t), some (.int (pk % 8)), a6] M4) (fun o => (∃ (x : Sp_) (X M3 : Hd), o = (Fl.rt (spd x), M3) ∧ SpOk m n k x ∧ Dr M3 (R ++ X)) ∨ ∃ (M3 X : Hd), o = (Fl.nx [some (.ref 1), some (.int m), some (.int n), some (.int k), some (.int t), some (.int (pk % 8)), a6], M3) ∧ Dr M3 (R ++ X)) := fun X M4 h => by
      unfold sNil
      rw [wp_some]
      exact .inr ⟨M4, X, rfl, h⟩
    have hD0 : Dr M3 (R ++ []) := by rw [List.append_nil]; exact hD
    unfold sIf
    rw [wp_exB]
    simp only [tAnd, tVal, tTru, eOp, eCall, aCons, aNil, eVar, eC, wp_bnd, wp_some, List.getElem?_cons_zero, List.getElem?_cons_succ, ltG_int, gtG_int, bOf]
    by_cases p4 : pk % 8 < 4
    · rw [decide_eq_true p4]
      simp only [if_true, bnd_ok, gtG_int, bOf]
      by_cases n2 : 2 < n
      · rw [decide_eq_true n2]
        simp only [if_true]
        simp only [wp_bnd, wp_some]
        refine (is_primeG_ok (M := M3) hm).ok ?_
        rintro _ _ ⟨b, X, rfl, rfl, hb⟩
        dsimp only [truD]
        rw [wp_some]
        dsimp only
        have hD := hD.app X
        cases b with
        | true =>
          rw [if_pos rfl]
          walk_at "ds"
          refine (look_ok (k := k) hD (hb rfl) hm.2 (by omega) ht).ok ?_
          rintro _ M5 ⟨x, X2, rfl, hx, hD⟩
          walk_at "ds"
          rw [List.append_assoc] at hD
          exact .inl ⟨x, _, _, rfl, hx, hD⟩
        | false =>
          rw [if_neg (by decide)]
          exact no _ _ hD
      · rw [decide_eq_false n2]
        simp only [Bool.false_eq_true, if_false, wp_some]
        exact no [] _ hD0
    · rw [decide_eq_false p4]
      simp only [Bool.false_eq_true, if_false, wp_some]
      exact no [] _ hD0
  rintro _ (⟨x, X, M3, rfl, hx, hD⟩ | ⟨M3, X, rfl, hD⟩)
  · rw [nxQ_rt, fnQ_rt]
    exact ⟨x, X, rfl, hx, hD⟩
  walk_at "ds"
  refine (number6_ok hD hm.1).ok ?_
  rintro _ M4 ⟨c, rfl, hc, hD⟩
  walk_at "ds"
  refine (factors_ok hD ht hk.1).ok ?_
  rintro _ M5 ⟨fs, Y, rfl, hfl, hfs, hD⟩
  walk_at "ds"
  rw [List.append_assoc] at hD
  exact ⟨.add t c fs, _, rfl, ⟨ht, hc, hfl, hfs⟩, hD⟩
/-! ### the law's own tables and steps -/
theorem prm_gcd2 {p u : Int} (hp : Prm p) (hu : 1 ≤ u ∧ u < p) : Nat.gcd u.toNat p.toNat = 1 := by
  obtain ⟨k, rfl⟩ := Int.eq_ofNat_of_zero_le (show 0 ≤ u by omega)
  obtain ⟨q, rfl⟩ := Int.eq_ofNat_of_zero_le (show 0 ≤ p by omega)
  rw [Int.toNat_natCast, Int.toNat_natCast]
  have hg1 : Nat.gcd k q ∣ k := Nat.gcd_dvd_left k q
  have hg2 : Nat.gcd k q ∣ q := Nat.gcd_dvd_right k q
  have hle : Nat.gcd k q ≤ k := Nat.le_of_dvd (by omega) hg1
  have hpos : 0 < Nat.gcd k q := Nat.gcd_pos_of_pos_left _ (by omega)
  rcases Nat.lt_or_ge 1 (Nat.gcd k q) with h | h
  · exfalso
    refine (prm_iff2 hp.1).mpr hp (Nat.gcd k q : Nat) (by omega) (by omega) ?_
    exact Int.emod_eq_zero_of_dvd (Int.natCast_dvd_natCast.mpr hg2)
  · omega
open Classical in
noncomputable def wI (p x : Int) (i : Nat) : Nat → Int
  | 0 => 1
  | n + 1 => if n = i then wI p x i n else wI p x i n * (x - n) * ivN p (((i : Int) - n) % p) % p
theorem wI_in {p x : Int} {i : Nat} (hp : 2 ≤ p) : ∀ n, 0 ≤ wI p x i n ∧ wI p x i n < p
  | 0 => by unfold wI; omega
  | n + 1 => by
    unfold wI
    split
    · exact wI_in hp n
    · exact ⟨Int.emod_nonneg _ (by omega), Int.emod_lt_of_pos _ (by omega)⟩
theorem diff_ne {p : Int} {i n c : Nat} (hi : i < c) (hn : n < c) (hc : (c : Int) ≤ p) (e : n ≠ i) : ((i : Int) - n) % p ≠ 0 := fun e0 => by
  obtain ⟨k, hk⟩ := Int.dvd_of_emod_eq_zero e0
  have hk1 : k < 1 := by
    rcases Int.lt_or_le k 1 with h | h
    · exact h
    · exfalso
      have : p * 1 ≤ p * k := Int.mul_le_mul_of_nonneg_left h (by omega)
      omega
  have hk2 : -1 < k := by
    rcases Int.lt_or_le (-1) k with h | h
    · exact h
    · exfalso
      have : p * k ≤ p * (-1) := Int.mul_le_mul_of_nonneg_left h (by omega)
      omega
  have : k = 0 := by omega
  subst this
  omega
theorem wI_cg {p x : Int} {i c : Nat} (hp : Prm p) (hp9 : p ≤ 1000000000) (hi : i < c) (hc : (c : Int) ≤ p) : ∀ n, n ≤ c → Cg p (wI p x i n * aL p i i n) (aL p x i n)
  | 0, _ => Cg.of_eq (by simp [wI, aL])
  | n + 1, h => by
    have ih := wI_cg (x := x) hp hp9 hi hc n (by omega)
    have hp2 := hp.1
    unfold wI aL
    by_cases e : n = i
    · rw [if_pos e, if_pos (show (n : Int) = i by omega), if_pos (show (n : Int) = i by omega)]
      exact ih
    · rw [if_neg e, if_neg (show ¬ (n : Int) = i by omega), if_neg (show ¬ (n : Int) = i by omega)]
      have hv0 := diff_ne hi (show n < c by omega) hc e
      have hvr : 0 ≤ ((i : Int) - n) % p ∧ ((i : Int) - n) % p < p := ⟨Int.emod_nonneg _ (by omega), Int.emod_lt_of_pos _ (by omega)⟩
      have hv : Cg p (((i : Int) - n) % p) ((i : Int) - n) := Cg.mdi Cg.rfl'
      generalize ((i : Int) - n) % p = v at hv0 hvr hv ⊢
      have h2 := (ivN_ok hp2 hp9 hvr (prm_gcd2 hp (by omega))).2
      have hI : Cg p (ivN p v * v) 1 := ⟨ivN p v * v / p, by have := Int.mul_ediv_add_emod (ivN p v * v) p; omega⟩
      have h3 : Cg p (wI p x i n * (x - n) * ivN p v % p * (aL p i i n * ((i : Int) - n) % p)) (wI p x i n * (x - n) * ivN p v * (aL p i i n * v)) := Cg.mul (Cg.mdi Cg.rfl') (Cg.mdi (Cg.mul Cg.rfl' hv.symm))
      refine h3.trans ?_
      refine Cg.trans (y := (wI p x i n * aL p i i n) * (x - n) * (ivN p v * v)) (Cg.of_eq (by grind)) ?_
      refine Cg.trans (Cg.mul (Cg.mul ih Cg.rfl') hI) ?_
      exact (Cg.of_eq (by omega)).trans (Cg.mdi Cg.rfl').symm
theorem wI_eq {p x : Int} {i c : Nat} (hp : Prm p) (hp9 : p ≤ 1000000000) (G : Good p c) (hi : i < c) (hc : (c : Int) ≤ p) : wI p x i c = Wt p x c i := by
  have h1 := wI_cg (x := x) hp hp9 hi hc c (Nat.le_refl _)
  have h2 := G.2.2.2 i hi
  have hp2 := hp.1
  have h3 : Cg p (pw p (aL p i i c) * aL p i i c) 1 := ⟨pw p (aL p i i c) * aL p i i c / p, by have := Int.mul_ediv_add_emod (pw p (aL p i i c) * aL p i i c) p; omega⟩
  have h4 : Cg p (wI p x i c) (aL p x i c * pw p (aL p i i c)) := by
    refine Cg.trans (y := (wI p x i c * aL p i i c) * pw p (aL p i i c)) ?_ (Cg.mul h1 Cg.rfl')
    refine Cg.trans (y := wI p x i c * 1) (Cg.of_eq (by omega)) ?_
    refine Cg.trans (Cg.mul Cg.rfl' h3.symm) (Cg.of_eq (by grind))
  unfold Wt
  rw [← h4.eq]
  have := wI_in (x := x) (i := i) hp2 c
  exact (Int.emod_eq_of_lt this.1 this.2).symm
/-- the sum so far, row by row -/
def psT (p x y : Int) (c : Nat) (f : Nat → Nat → Int) : Nat → Int
  | 0 => 0
  | n + 1 => psT p x y c f n + Wt p x c n * Sm_ p y c (f n) c
theorem psT_cg {p x y : Int} {c : Nat} {f : Nat → Nat → Int} : ∀ n, Cg p (psT p x y c f n) (Tt p x y c f n)
  | 0 => Cg.of_eq rfl
  | n + 1 => by
    unfold psT Tt
    exact (Cg.add (psT_cg n) Cg.rfl').trans (Cg.mdi Cg.rfl').symm
theorem wtsI_map {p x : Int} {c : Nat} (hp : Prm p) (hp9 : p ≤ 1000000000) (G : Good p c) (hc : (c : Int) ≤ p) : ((List.range c).map fun i => D.int (wI p x i c)) = (List.range c).map fun i => .int (Wt p x c i) := by
  apply List.map_congr_left
  intro i hi
  rw [wI_eq hp hp9 G (List.mem_range.mp hi) hc]
/-! ### the worth of factors -/
theorem worth_step {m : Int} {mem gs : List Int} {c y : Int} {fs : List Fc} : (y + c * addV m mem gs 1 fs) % m = (y + addV m mem gs c fs) % m := by
  have h1 : Cg m (addV m mem gs 1 fs) (1 * pF mem gs fs) := ⟨addV m mem gs 1 fs / m - 1 * pF mem gs fs / m, by
    have e := addV_eq (m := m) (mem := mem) (gs := gs) fs 1
    have a1 := Int.mul_ediv_add_emod (addV m mem gs 1 fs) m
    have a2 := Int.mul_ediv_add_emod (1 * pF mem gs fs) m
    rw [Int.mul_sub]
    omega⟩
  have h2 : Cg m (addV m mem gs c fs) (c * pF mem gs fs) := ⟨addV m mem gs c fs / m - c * pF mem gs fs / m, by
    have e := addV_eq (m := m) (mem := mem) (gs := gs) fs c
    have a1 := Int.mul_ediv_add_emod (addV m mem gs c fs) m
    have a2 := Int.mul_ediv_add_emod (c * pF mem gs fs) m
    rw [Int.mul_sub]
    omega⟩
  have h3 : Cg m (y + c * addV m mem gs 1 fs) (y + addV m mem gs c fs) := Cg.add Cg.rfl' ((Cg.mul Cg.rfl' h1).trans ((Cg.of_eq (by grind)).trans h2.symm))
  exact h3.eq
/-! ### the law performs steps of all kinds -/
/-! ### drawn lists of numbers -/
theorem wp_nums6 {n m : Int} (hn : 0 ≤ n ∧ n ≤ 60) (hm : 2 ≤ m) {v mi : Nat} {own : List Nat} {r : Ev} {M0 M R : Hd} {it : IF} (e : it r M0 = some (.ok (intsD 0 n.toNat, []) M)) (h : Dr M R) (h1 : (wip r own)[1]? = some (some (.ref 1))) (h2 : (wip r own)[mi]? = some (some (.int m))) (hv : v ≠ 1 ∧ v ≠ mi) :
    Wp (eLc it (.nm v) tYes (eCall m__law_number (aCons (eVar 1) (aCons (eVar mi) aNil))) own r M0) (okQ fun d M1 => ∃ (j : Nat) (gs : List Int) (X : Hd), d = .ref (j + 2) ∧ (R ++ X)[j]? = some (.lst (gs.map D.int)) ∧ (gs.length : Int) = n ∧ (∀ v ∈ gs, 0 ≤ v ∧ v < m) ∧ Dr M1 (R ++ X)) := by
  refine (wp_makes2 (n := n) (M := M) (R := R) (Q := fun d => ∃ i, d = .int i ∧ (0 ≤ i ∧ i < m)) (by omega) ?_ e h).ok ?_
  · intro j M R h0 h1' hD
    unfold eCall
    simp only [aCons, aNil, eVar]
    rw [List.getElem?_set_ne hv.1, h1]
    simp only [bnd_ok]
    rw [List.getElem?_set_ne hv.2, h2]
    simp only [bnd_ok]
    refine (number6_ok hD hm).ok ?_
    rintro _ M1 ⟨x, rfl, x0, hD⟩
    exact ⟨⟨x, rfl, x0⟩, [], by rw [List.append_nil]; exact hD⟩
  · rintro _ M1 ⟨rfl, ds, Y, hdl, hds, hD⟩
    obtain ⟨gs, rfl, hgs⟩ := lst_ints hds
    rw [List.length_map] at hdl
    exact ⟨R.length, gs, _, rfl, get_mid, by omega, hgs, hD⟩
theorem Dr.keepX {M M1 R X : Hd} (h : Dr M R) (h1 : Dr M1 (R ++ X)) {i : Nat} {o : O} (hi : 2 ≤ i) (e : M[i]? = some o) : M1[i]? = some o := by
  obtain ⟨j, rfl⟩ : ∃ j, i = j + 2 := ⟨i - 2, by omega⟩
  rw [h1.get]
  rw [h.get] at e
  exact get_app_l e
theorem atI_of {l : List D} {j : Int} {c : Nat} (hl : l.length = c) (hj : 0 ≤ j ∧ j < c) : ∃ d, d ∈ l ∧ atI l j = some d := by
  have h : j.toNat < l.length := by omega
  exact ⟨l[j.toNat], List.getElem_mem h, atI_nn hj.1 (List.getElem?_eq_getElem h)⟩
/-! ### lists that a loop changes -/
theorem tru_lst {f : EF} {r : Ev} {M M1 : Hd} {i : Nat} {ds : List D} (h : f r M = some (.ok (.ref i) M1)) (h2 : M1[i]? = some (.lst ds)) : tTru f r M = some (.ok (!ds.isEmpty) M1) := by
  unfold tTru
  rw [h, bnd_ok]
  unfold truD
  dsimp only
  rw [h2]
theorem eLm_pop {fo : EF} {r : Ev} {M : Hd} {i : Nat} {ds : List D} {y : D} (h1 : fo r M = some (.ok (.ref i) M)) (h2 : M[i]? = some (.lst (ds ++ [y]))) : eLm popG fo aNil r M = some (.ok y (M.set i (.lst ds))) := by
  unfold eLm
  rw [h1, bnd_ok]
  dsimp only
  rw [h2]
  simp only [aNil, bnd_ok]
  rw [h2]
  unfold popG
  dsimp only
  rw [show (ds ++ [y]).length - 1 = ds.length by simp, List.getElem?_concat_length, List.dropLast_concat]
theorem eLm_extend {fo fe : EF} {r : Ev} {M M1 : Hd} {i j : Nat} {ds ds' es : List D} (h1 : fo r M = some (.ok (.ref i) M)) (h2 : M[i]? = some (.lst ds')) (h3 : fe r M = some (.ok (.ref j) M1)) (h4 : M1[i]? = some (.lst ds)) (h5 : M1[j]? = some (.lst es)) (hl : ds.length + es.length ≤ 16777216) : eLm extendG fo (aCons fe aNil) r M = some (.ok .non (M1.set i (.lst (ds ++ es)))) := by
  unfold eLm
  rw [h1, bnd_ok]
  dsimp only
  rw [h2]
  simp only [aCons, aNil, h3, bnd_ok]
  rw [h4]
  unfold extendG
  dsimp only
  rw [h5]
  dsimp only
  rw [if_pos hl]
theorem make_go {m n k z : Int} {xs : List Sp_} {q : Nat} {g : AF} {r : Ev} {M M1 : Hd} {P : Rs D → Prop} (ok : PgOk m n k xs z) (hz : z ≤ 20000) (hg : g r M = some (.ok [.int m, .int n, .int k, .ref q] M1)) (hq : M1[q]? = some (.lst (xs.map spd)))
    (h : P (.ok (.ref M1.length) (M1 ++ [progO m n k (M1.length + 1), .lst (xs.map spd)]))) : Wp (eMake "Program" m_Program___init__ g r M) P := wp_of_eq (make_ok ok hz hg hq) h
theorem eLm_append {fo fe : EF} {r : Ev} {M M1 : Hd} {i : Nat} {ds : List D} {y : D} (h1 : fo r M = some (.ok (.ref i) M)) (h2 : M[i]? = some (.lst ds)) (h3 : fe r M = some (.ok y M1)) (h4 : M1[i]? = some (.lst ds)) (hl : ds.length < 16777216) : eLm appendG fo (aCons fe aNil) r M = some (.ok .non (M1.set i (.lst (ds ++ [y])))) := by
  unfold eLm
  rw [h1, bnd_ok]
  dsimp only
  rw [h2]
  simp only [aCons, aNil, h3, bnd_ok]
  rw [h4]
  unfold appendG
  dsimp only
  rw [if_pos hl]
theorem get_mid2 {A B : Hd} {a b : O} : (A ++ a :: b :: B)[A.length + 1]? = some b := by simp
theorem set_midS {A B : Hd} {a b c : O} : (A ++ a :: b :: B).set (A.length + 1) c = A ++ a :: c :: B := by simp
/-! ### what stays -/
theorem Dr.keep {M M1 R : Hd} (h : Dr M R) (h1 : Dr M1 R) {i : Nat} (hi : 2 ≤ i) : M1[i]? = M[i]? := by
  obtain ⟨j, rfl⟩ : ∃ j, i = j + 2 := ⟨i - 2, by omega⟩
  rw [h.get, h1.get]
theorem Dr.prg {M M1 R X : Hd} {z u : Nat} {m n k : Int} {xs : List Sp_} (h : Dr M R) (h1 : Dr M1 (R ++ X)) (p : PrgAt M z u m n k xs) (hz : 2 ≤ z) (hu : 2 ≤ u) : PrgAt M1 z u m n k xs := by
  have go : ∀ {i : Nat} {o : O}, 2 ≤ i → M[i]? = some o → M1[i]? = some o := fun {i o} hi e => by
    obtain ⟨j, rfl⟩ : ∃ j, i = j + 2 := ⟨i - 2, by omega⟩
    rw [h1.get]
    rw [h.get] at e
    exact get_app_l e
  exact ⟨go hz p.at_, go hu p.st⟩
theorem PrgAt.two {M : Hd} {z u : Nat} {m n k : Int} {xs : List Sp_} {R : Hd} (h : Dr M R) (p : PrgAt M z u m n k xs) : 2 ≤ z := by
  obtain ⟨ds, a, rfl, _⟩ := h
  have := p.at_
  rcases z with _ | _ | z
  · cases this
  · cases this
  · omega
theorem three {mem : List Int} (h : mem.length = 3) : ∃ a b c, mem = [a, b, c] := by
  match mem, h with
  | [a, b, c], _ => exact ⟨a, b, c, rfl⟩
theorem addAt_three {m a b c v : Int} : addAt m [a, b, c] 0 v = [(a + v) % m, b, c] := rfl
/-! ### vaults and loans -/
def vaultO (m : Int) (c l : Nat) : O := .ins "Vault" [("modulus", .int m), ("cells", .ref c), ("loans", .ref l)]
def loanO (p pl gv : Nat) (b dn : Int) : O := .ins "Loan" [("program", .ref p), ("places", .ref pl), ("given", .ref gv), ("begun", .int b), ("done", .int dn)]
theorem fld_at {c f : Str} {fs : List (Str × D)} {i : Nat} {M : Hd} {d : D} (h : M[i]? = some (.ins c fs)) (hl : fs.lookup f = some d) : fldG c f (.ref i) M = some (.ok d M) := by
  unfold fldG
  dsimp only
  rw [h]
  dsimp only
  rw [if_pos rfl, hl]
  rfl
theorem fldV {m : Int} {c l v : Nat} {M : Hd} (h : M[v]? = some (vaultO m c l)) : fldG "Vault" "modulus" (.ref v) M = some (.ok (.int m) M) ∧ fldG "Vault" "cells" (.ref v) M = some (.ok (.ref c) M) ∧ fldG "Vault" "loans" (.ref v) M = some (.ok (.ref l) M) := by
  refine ⟨fld_at h rfl, fld_at h ?_, fld_at h ?_⟩
  · rw [List.lookup_cons, show (("cells" : Str) == "modulus") = false from by decide +kernel]
    rfl
  · rw [List.lookup_cons, show (("loans" : Str) == "modulus") = false from by decide +kernel]
    dsimp only
    rw [List.lookup_cons, show (("loans" : Str) == "cells") = false from by decide +kernel]
    rfl
theorem fldL {p pl gv a : Nat} {b dn : Int} {M : Hd} (h : M[a]? = some (loanO p pl gv b dn)) : fldG "Loan" "program" (.ref a) M = some (.ok (.ref p) M) ∧ fldG "Loan" "places" (.ref a) M = some (.ok (.ref pl) M) ∧ fldG "Loan" "given" (.ref a) M = some (.ok (.ref gv) M) ∧ fldG "Loan" "begun" (.ref a) M = some (.ok (.int b) M) ∧ fldG "Loan" "done" (.ref a) M = some (.ok (.int dn) M) := by
  refine ⟨fld_at h rfl, fld_at h ?_, fld_at h ?_, fld_at h ?_, fld_at h ?_⟩
  · rw [List.lookup_cons, show (("places" : Str) == "program") = false from by decide +kernel]
    rfl
  · rw [List.lookup_cons, show (("given" : Str) == "program") = false from by decide +kernel]
    dsimp only
    rw [List.lookup_cons, show (("given" : Str) == "places") = false from by decide +kernel]
    rfl
  · rw [List.lookup_cons, show (("begun" : Str) == "program") = false from by decide +kernel]
    dsimp only
    rw [List.lookup_cons, show (("begun" : Str) == "places") = false from by decide +kernel]
    dsimp only
    rw [List.lookup_cons, show (("begun" : Str) == "given") = false from by decide +kernel]
    rfl
  · rw [List.lookup_cons, show (("done" : Str) == "program") = false from by decide +kernel]
    dsimp only
    rw [List.lookup_cons, show (("done" : Str) == "places") = false from by decide +kernel]
    dsimp only
    rw [List.lookup_cons, show (("done" : Str) == "given") = false from by decide +kernel]
    dsimp only
    rw [List.lookup_cons, show (("done" : Str) == "begun") = false from by decide +kernel]
    rfl
/-- the cells at places; the cells with others there -/
def subC (cs pl : List Int) : List Int := pl.map (cg cs)
def putC (cs pl vs : List Int) : List Int := (pl.zip vs).foldl (fun cs q => cs.set q.1.toNat q.2) cs
theorem putC_len {pl vs : List Int} : ∀ {cs : List Int}, (putC cs pl vs).length = cs.length := by
  unfold putC
  generalize pl.zip vs = z
  induction z with
  | nil => intro cs; rfl
  | cons q z ih =>
    intro cs
    rw [List.foldl_cons, ih, List.length_set]
theorem putC_in {P : Int → Prop} {pl vs : List Int} (hv : ∀ v ∈ vs, P v) : ∀ {cs : List Int}, (∀ v ∈ cs, P v) → ∀ v ∈ putC cs pl vs, P v := by
  unfold putC
  have : ∀ q ∈ pl.zip vs, P q.2 := fun q hq => hv _ (List.of_mem_zip hq).2
  revert this
  generalize pl.zip vs = z
  induction z with
  | nil => intro _ cs h; exact h
  | cons q z ih =>
    intro hz cs h
    rw [List.foldl_cons]
    exact ih (fun q hq => hz q (List.mem_cons_of_mem _ hq)) (mem_set h (hz q List.mem_cons_self))
theorem pairs_map {xs ys : List Int} {i : Nat} {d : D} (h : (pairsD (xs.map D.int) (ys.map D.int))[i]? = some d) : ∃ p v, (xs.zip ys)[i]? = some (p, v) ∧ d = .tup [.int p, .int v] := by
  unfold pairsD at h
  rw [List.getElem?_zipWith, List.getElem?_map, List.getElem?_map] at h
  cases e1 : xs[i]? with
  | none => rw [e1] at h; cases h
  | some p =>
    cases e2 : ys[i]? with
    | none => rw [e1, e2] at h; cases h
    | some v =>
      rw [e1, e2] at h
      cases h
      exact ⟨p, v, by unfold List.zip; rw [List.getElem?_zipWith, e1, e2], rfl⟩
theorem pairs_mlen {xs ys : List Int} : (pairsD (xs.map D.int) (ys.map D.int)).length = (xs.zip ys).length := by
  unfold pairsD
  simp
def picI (cs : List Int) : D → D
  | .int p => .int (cg cs p)
  | d => d
theorem map_pic {cs pl : List Int} : (pl.map D.int).map (picI cs) = (subC cs pl).map D.int := by
  unfold subC
  rw [List.map_map, List.map_map]
  rfl
theorem ixN_in {l : Nat} {i : Int} (h : 0 ≤ i ∧ i < l) : ixN l i = some i.toNat := by
  unfold ixN
  simp [h.1, h.2]
theorem get_setc {M Y : Hd} {c : Nat} {o : O} (h : c < M.length) : (M ++ Y).set c o = M.set c o ++ Y := List.set_append_left _ _ h
theorem set_same {M : Hd} {i : Nat} {o : O} (h : M[i]? = some o) : M.set i o = M := by
  apply List.ext_getElem?
  intro j
  by_cases e : i = j
  · subst e
    rw [set_get h, h]
  · rw [List.getElem?_set_ne e]
/-- what a loan's parts are on the heap -/
structure LAt (M : Hd) (c : Nat) (m n k : Int) (pl gs : List Int) (plr gvr : Nat) (N : Int) : Prop where
  pls : M[plr]? = some (.lst (pl.map D.int))
  gvs : M[gvr]? = some (.lst (gs.map D.int))
  np : plr ≠ c
  ng : gvr ≠ c
  pn : (pl.length : Int) = n
  gn : (gs.length : Int) = k
  pin : ∀ p ∈ pl, 0 ≤ p ∧ p < N
  gin : ∀ v ∈ gs, 0 ≤ v ∧ v < m
def opS (m : Int) (gs pl cs : List Int) (x : Sp_) : List Int := putC cs pl (doS m gs (subC cs pl) x)
theorem subC_in {m : Int} (hm : 0 < m) {cs pl : List Int} (h : ∀ v ∈ cs, 0 ≤ v ∧ v < m) : ∀ v ∈ subC cs pl, 0 ≤ v ∧ v < m := fun v hv => by
  unfold subC at hv
  obtain ⟨p, _, rfl⟩ := List.mem_map.mp hv
  exact cg_in hm h p
theorem opS_len {m : Int} {gs pl cs : List Int} {x : Sp_} : (opS m gs pl cs x).length = cs.length := putC_len
theorem opS_in {m : Int} {gs pl cs : List Int} {x : Sp_} (hm : 0 < m) (h : ∀ v ∈ cs, 0 ≤ v ∧ v < m) : ∀ v ∈ opS m gs pl cs x, 0 ≤ v ∧ v < m := putC_in (doS_in hm (subC_in hm h)) h
theorem lk_vm {m c l : D} {s : Str} (h1 : (s == "modulus") = false) (h2 : (s == "cells") = false) (h3 : (s == "loans") = false) : List.lookup s [(("modulus" : Str), m), ("cells", c), ("loans", l)] = none := by
  rw [List.lookup_cons, h1]
  dsimp only
  rw [List.lookup_cons, h2]
  dsimp only
  rw [List.lookup_cons, h3]
  rfl
theorem vperform_ok {m n k : Int} {x : Sp_} {v a c l p plr gvr : Nat} {b dn : Int} {cs pl gs : List Int} {M : Hd} (hm : 2 ≤ m ∧ m ≤ 1000000000) (hx : SpOk m n k x) (hv : M[v]? = some (vaultO m c l)) (hc : M[c]? = some (.lst (cs.map D.int))) (ha : M[a]? = some (loanO p plr gvr b dn)) (L : LAt M c m n k pl gs plr gvr cs.length) (hcs : ∀ v ∈ cs, 0 ≤ v ∧ v < m) (hpl : pl.length ≤ 1000) :
    Wp (m_Vault_perform [.ref v, .ref a, spd x] M) (okQ fun d M1 => ∃ Z, M1 = M.set c (.lst ((opS m gs pl cs x).map D.int)) ++ Z) := by
  have hcl : c < M.length := (List.getElem?_eq_some_iff.mp hc).1
  have hgl : gvr < M.length := (List.getElem?_eq_some_iff.mp L.gvs).1
  refine wp_mir rfl ?_
  unfold g_Vault_perform
  generalize hX : spd x = X
  walk_at "ds"
  refine (wp_comp (M := M) (ds := pl.map D.int) (gs := [(plr, pl.map D.int)]) (keep := fun _ => true) (val := picI cs) ?_ (fun Y => by simp only [still_one, still_nil, and_true]; exact get_old L.pls) (by simp; omega) ?_).ok ?_
  · walk_at "ds"
    simp only [(fldL ha).2.1, bnd_ok, L.pls]
  · intro d hd Y
    obtain ⟨q, hq, rfl⟩ := List.mem_map.mp hd
    have hq2 := L.pin q hq
    refine ⟨_, rfl, ?_⟩
    walk_at "ds"
    refine ⟨[], by simp, fun _ => ?_⟩
    rw [(fldV (get_old hv)).2.1]
    walk_at "ds"
    rw [get_old hc]
    walk_at "ds"
    rw [atI_cs hq2]
    walk_at "ds"
    exact ⟨rfl, [], by simp⟩
  rintro _ M1 ⟨rfl, Z, rfl⟩
  have hf : List.map (picI cs) (List.filter (fun _ => true) (pl.map D.int)) = (subC cs pl).map D.int := by
    have e : (pl.map D.int).filter (fun _ => true) = pl.map D.int := by simp
    rw [e, map_pic]
  rw [hf]
  have ha1 := get_old (Z := O.lst ((subC cs pl).map D.int) :: Z) ha
  have hv1 := get_old (Z := O.lst ((subC cs pl).map D.int) :: Z) hv
  walk_at "ds"
  rw [(fldL ha1).2.2.1]
  walk_at "ds"
  rw [(fldV hv1).1]
  walk_at "ds"
  rw [← hX]
  refine (performS_ok (p := M.length) (q := gvr) (mem := subC cs pl) (gs := gs) hm hx get_here (get_old L.gvs) (by unfold subC; rw [List.length_map]; exact L.pn) L.gn (subC_in (by omega) hcs) L.gin (by omega)).ok ?_
  rintro d1 _ ⟨Y, rfl⟩
  rw [set_here, List.append_assoc, List.cons_append]
  generalize hnew : doS m gs (subC cs pl) x = new
  generalize Z ++ Y = Z
  have ha1 := get_old (Z := O.lst (new.map D.int) :: Z) ha
  have hv1 := get_old (Z := O.lst (new.map D.int) :: Z) hv
  have hop : opS m gs pl cs x = putC cs pl new := by unfold opS; rw [hnew]
  rw [hop]
  clear hnew hX
  generalize spd x = X
  walk_at "ds"
  rw [zip2_eq (x := .ref plr) (y := .ref M.length) (xs := pl.map D.int) (ys := new.map D.int) (g := [(plr, pl.map D.int)]) (h := [(M.length, new.map D.int)]) (M1 := M ++ O.lst (new.map D.int) :: Z) (M2 := M ++ O.lst (new.map D.int) :: Z) (by
    walk_at "ds"
    rw [(fldL ha1).2.1]) rfl (sq_ref (get_old L.pls)) (sq_ref get_here)]
  walk_at "ds"
  refine wp_forL (fun i r M2 => ∃ q w, r = [some (.ref v), some (.ref a), some X, some (.ref M.length), q, w] ∧ M2 = M.set c (.lst ((((pl.zip new).take i).foldl (fun cs q => cs.set q.1.toNat q.2) cs).map D.int)) ++ O.lst (new.map D.int) :: Z) ?_ ?_ ?_
  · rintro i d r M2 hd ⟨q, w, rfl, rfl⟩
    obtain ⟨pp, vv, hz, rfl⟩ := pairs_map hd
    have hpp := L.pin pp (List.of_mem_zip (List.mem_of_getElem? hz)).1
    generalize hcsi : ((pl.zip new).take i).foldl (fun cs q => cs.set q.1.toNat q.2) cs = csi
    have hle : csi.length = cs.length := by
      rw [← hcsi]
      have : ((pl.zip new).take i).foldl (fun cs q => cs.set q.1.toNat q.2) cs = putC cs (((pl.zip new).take i).map Prod.fst) (((pl.zip new).take i).map Prod.snd) := by
        unfold putC
        congr 1
        rw [List.zip_map']
        simp
      rw [this, putC_len]
    have g1 : (M.set c (.lst (csi.map D.int)) ++ O.lst (new.map D.int) :: Z)[plr]? = some (.lst (pl.map D.int)) := by
      refine get_old ?_
      rw [List.getElem?_set_ne (Ne.symm L.np)]
      exact L.pls
    have hlM : (M.set c (O.lst (csi.map D.int))).length = M.length := List.length_set
    have g2 : (M.set c (.lst (csi.map D.int)) ++ O.lst (new.map D.int) :: Z)[M.length]? = some (.lst (new.map D.int)) := by
      rw [← hlM]
      exact get_here
    refine ⟨?_, _, rfl, ?_⟩
    · simp only [List.cons_append, List.nil_append, still_one, still_nil, and_true]
      exact ⟨g1, g2⟩
    have hvc : v ≠ c := by
      rintro rfl
      rw [hc] at hv
      cases hv
    have g3 : (M.set c (.lst (csi.map D.int)) ++ O.lst (new.map D.int) :: Z)[v]? = some (vaultO m c l) := by
      refine get_old ?_
      rw [List.getElem?_set_ne (Ne.symm hvc)]
      exact hv
    have g4 : (M.set c (.lst (csi.map D.int)) ++ O.lst (new.map D.int) :: Z)[c]? = some (.lst (csi.map D.int)) := get_old (set_get hc)
    walk_at "ds"
    rw [(fldV g3).2.1]
    walk_at "ds"
    rw [g4]
    dsimp only
    rw [ixN_cg (by omega)]
    walk_at "ds"
    refine ⟨_, _, rfl, ?_⟩
    rw [List.take_succ, hz, List.foldl_append, hcsi, get_setc (by rw [hlM]; exact hcl), List.set_set, map_setI]
    rfl
  · rintro r M2 ⟨q, w, rfl, rfl⟩
    rw [pairs_mlen, List.take_length]
    have hlM : (M.set c (O.lst ((putC cs pl new).map D.int))).length = M.length := List.length_set
    refine ⟨?_, ?_⟩
    · simp only [List.cons_append, List.nil_append, still_one, still_nil, and_true]
      refine ⟨get_old ?_, ?_⟩
      · rw [List.getElem?_set_ne (Ne.symm L.np)]
        exact L.pls
      · have := get_here (M := M.set c (O.lst ((putC cs pl new).map D.int))) (o := O.lst (new.map D.int)) (Z := Z)
        rw [hlM] at this
        exact this
    · walk_at "ds"
      exact ⟨_, rfl⟩
  · refine ⟨none, none, rfl, ?_⟩
    rw [List.take_zero, List.foldl_nil]
    congr 1
    exact (set_same hc).symm
/-! ### the loans of a vault -/
structure Ln where
  n : Int
  k : Int
  xs : List Sp_
  pl : List Int
  gs : List Int
  b : Int
  dn : Nat
  a : Nat
  p : Nat
  s : Nat
  plr : Nat
  gvr : Nat
def lnD : Option Ln → D
  | none => .non
  | some L => .ref L.a
structure LnAt (M : Hd) (c : Nat) (m N : Int) (L : Ln) : Prop where
  at_ : M[L.a]? = some (loanO L.p L.plr L.gvr L.b L.dn)
  pg : PrgAt M L.p L.s m L.n L.k L.xs
  la : LAt M c m L.n L.k L.pl L.gs L.plr L.gvr N
  ok : PgOk m L.n L.k L.xs 20000
  nd : L.pl.Nodup
  dl : L.dn ≤ L.xs.length
structure VAt (M : Hd) (v c l : Nat) (m : Int) (cs : List Int) (Ls : List (Option Ln)) : Prop where
  hm : 2 ≤ m ∧ m ≤ 1000000000
  vv : M[v]? = some (vaultO m c l)
  cc : M[c]? = some (.lst (cs.map D.int))
  ll : M[l]? = some (.lst (Ls.map lnD))
  cl : 1 ≤ cs.length ∧ cs.length ≤ 200
  nl : Ls.length ≤ 1000
  ci : ∀ x ∈ cs, 0 ≤ x ∧ x < m
  ln : ∀ (i : Nat) L, Ls[i]? = some (some L) → LnAt M c m cs.length L
  ne : ∀ (i j : Nat) L L', Ls[i]? = some (some L) → Ls[j]? = some (some L') → i ≠ j → L.a ≠ L'.a
def opened (Ls : List (Option Ln)) : D → Option Ln
  | .int t => if 0 ≤ t then (Ls[t.toNat]?).join else none
  | _ => none
theorem opened_some {Ls : List (Option Ln)} {d : D} {L : Ln} (h : opened Ls d = some L) : ∃ t : Nat, d = .int t ∧ Ls[t]? = some (some L) := by
  cases d with
  | int t =>
    unfold opened at h
    dsimp only at h
    split at h
    · refine ⟨t.toNat, by rw [Int.toNat_of_nonneg (by omega)], ?_⟩
      cases e : Ls[t.toNat]? with
      | none => rw [e] at h; cases h
      | some o => rw [e] at h; cases o with
        | none => cases h
        | some L' => cases h; rfl
    · cases h
  | _ => cases h
theorem opened_at {Ls : List (Option Ln)} {t : Nat} {L : Ln} (h : Ls[t]? = some (some L)) : opened Ls (.int t) = some L := by
  unfold opened
  dsimp only
  rw [if_pos (by omega), Int.toNat_natCast, h]
  rfl
section
variable {M : Hd} {v c l : Nat} {m : Int} {cs : List Int} {Ls : List (Option Ln)}
theorem VAt.app {X : Hd} (h : VAt M v c l m cs Ls) : VAt (M ++ X) v c l m cs Ls :=
  ⟨h.hm, get_old h.vv, get_old h.cc, get_old h.ll, h.cl, h.nl, h.ci, fun i L e =>
    let q := h.ln i L e
    ⟨get_old q.at_, q.pg.app, ⟨get_old q.la.pls, get_old q.la.gvs, q.la.np, q.la.ng, q.la.pn, q.la.gn, q.la.pin, q.la.gin⟩, q.ok, q.nd, q.dl⟩, h.ne⟩
/-- what a vault stands on -/
def Foot (v c l : Nat) (Ls : List (Option Ln)) (i : Nat) : Prop := i = v ∨ i = c ∨ i = l ∨ ∃ (j : Nat) (L : Ln), Ls[j]? = some (some L) ∧ (i = L.a ∨ i = L.p ∨ i = L.s ∨ i = L.plr ∨ i = L.gvr)
theorem VAt.frame {M' : Hd} (h : VAt M v c l m cs Ls) (hf : ∀ i, Foot v c l Ls i → M'[i]? = M[i]?) : VAt M' v c l m cs Ls := by
  refine ⟨h.hm, ?_, ?_, ?_, h.cl, h.nl, h.ci, fun i L e => ?_, h.ne⟩
  · rw [hf _ (.inl rfl)]; exact h.vv
  · rw [hf _ (.inr (.inl rfl))]; exact h.cc
  · rw [hf _ (.inr (.inr (.inl rfl)))]; exact h.ll
  · have q := h.ln i L e
    have f : ∀ j, (j = L.a ∨ j = L.p ∨ j = L.s ∨ j = L.plr ∨ j = L.gvr) → M'[j]? = M[j]? := fun j hj => hf j (.inr (.inr (.inr ⟨i, L, e, hj⟩)))
    refine ⟨?_, ⟨?_, ?_⟩, ⟨?_, ?_, q.la.np, q.la.ng, q.la.pn, q.la.gn, q.la.pin, q.la.gin⟩, q.ok, q.nd, q.dl⟩
    · rw [f _ (.inl rfl)]; exact q.at_
    · rw [f _ (.inr (.inl rfl))]; exact q.pg.at_
    · rw [f _ (.inr (.inr (.inl rfl)))]; exact q.pg.st
    · rw [f _ (.inr (.inr (.inr (.inl rfl))))]; exact q.la.pls
    · rw [f _ (.inr (.inr (.inr (.inr rfl))))]; exact q.la.gvs
theorem found_ok (h : VAt M v c l m cs Ls) {d : D} (hd : Itm d) : m_Vault_found [.ref v, d] M = some (match opened Ls d with | some L => .ok (.ref L.a) M | none => .er "BadTicket" M) := by
  have hll : ∀ (t : Nat) o, Ls[t]? = some o → atI (Ls.map lnD) (t : Int) = some (lnD o) := fun t o e => L2.atI_nat (by rw [List.getElem?_map, e]; rfl)
  refine wp_eq ?_
  refine wp_mir rfl ?_
  unfold g_Vault_found
  have hst : startD N_Vault_found.length [.ref v, d] = [some (.ref v), some d] := rfl
  rw [hst, wp_seq]
  refine wp_if2 (c := opened Ls d = none) ?_ (fun hc => ?_) (fun hc => ?_)
  · walk_at "di"
    rw [(fldV h.vv).2.2]
    walk_at "di"
    rw [h.ll]
    walk_at "di"
    rw [List.length_map, is_number_itm hd]
    walk_at "di"
    split
    · rename_i hn
      refine ⟨true, rfl, ?_⟩
      simp only [true_iff]
      cases e : opened Ls d with
      | none => rfl
      | some L =>
        obtain ⟨t, rfl, hL⟩ := opened_some e
        have hlt := (List.getElem?_eq_some_iff.mp hL).1
        rw [numB_iff.mpr ⟨t, rfl, by omega, by omega⟩] at hn
        cases hn
    · rename_i hn
      rw [Bool.not_eq_false] at hn
      obtain ⟨t, rfl, t0, t1⟩ := numB_iff.mp hn
      obtain ⟨t, rfl⟩ := Int.eq_ofNat_of_zero_le t0
      have hlt : t < Ls.length := by omega
      obtain ⟨o, ho⟩ : ∃ o, Ls[t]? = some o := ⟨_, List.getElem?_eq_getElem hlt⟩
      rw [(fldV h.vv).2.2]
      walk_at "di"
      rw [h.ll]
      walk_at "di"
      rw [hll t o ho]
      walk_at "di"
      refine ⟨_, rfl, ?_⟩
      unfold opened
      dsimp only
      rw [if_pos t0, Int.toNat_natCast, ho]
      cases o <;> simp [lnD, D.isNon]
  · walk_at "ds"
    rw [hc]
  · cases e : opened Ls d with
    | none => exact absurd e hc
    | some L =>
      obtain ⟨t, rfl, hL⟩ := opened_some e
      refine wp_nil ?_
      walk_at "ds"
      rw [(fldV h.vv).2.2]
      walk_at "ds"
      rw [h.ll]
      walk_at "ds"
      rw [hll t _ hL]
      walk_at "ds"
      rfl
theorem vmemory_ok (h : VAt M v c l m cs Ls) : m_Vault_memory [.ref v] M = some (.ok (.ref M.length) (M ++ [.lst (cs.map D.int)])) := by
  refine wp_eq ?_
  refine wp_mir rfl ?_
  unfold g_Vault_memory
  walk_at "ds"
  rw [(fldV h.vv).2.1]
  walk_at "ds"
  rw [listG_ref h.cc]
  walk_at "ds"
theorem prp_go {cn : Str} {mm : List D → Hd → Option (Rs D)} {fa : EF} {r : Ev} {M M1 M2 : Hd} {i : Nat} {fs : List (Str × D)} {d : D} (h1 : fa r M = some (.ok (.ref i) M1)) (h2 : M1[i]? = some (.ins cn fs)) (h3 : mm [.ref i] M1 = some (.ok d M2)) : ePrp cn mm fa r M = some (.ok d M2) := by
  unfold ePrp
  rw [h1, bnd_ok]
  dsimp only
  rw [h2]
  dsimp only
  rw [if_pos rfl, h3]
/-- the tickets of the open loans -/
def openT (Ls : List (Option Ln)) : List Int := (Ls.zipIdx.filter fun q => q.1.isSome).map fun q => (q.2 : Int)
theorem vopen_ok (h : VAt M v c l m cs Ls) : Wp (m_Vault_open_loans [.ref v] M) (okQ fun d M1 => d = .ref M.length ∧ ∃ Z, M1 = M ++ .lst ((openT Ls).map D.int) :: Z) := by
  refine wp_mir rfl ?_
  unfold g_Vault_open_loans
  walk_at "ds"
  refine (wp_comp (M := M) (ds := numbD (Ls.map lnD)) (gs := [(l, Ls.map lnD)]) (keep := fun d => match d with | .tup [_, x] => !x.isNon | _ => false) (val := fun d => match d with | .tup [i, _] => i | d => d) ?_ (fun Y => by simp only [still_one, still_nil, and_true]; exact get_old h.ll) (by have := h.nl; simp [numbD]; omega) ?_).ok ?_
  · unfold enumI
    walk_at "ds"
    rw [(fldV h.vv).2.2]
    rw [bnd_ok, sq_ref h.ll]
  · intro d hd Y
    obtain ⟨i, hi⟩ := List.getElem?_of_mem hd
    obtain ⟨x, hx, rfl⟩ := numb_get hi
    refine ⟨_, rfl, ?_⟩
    walk_at "ds"
    refine ⟨[], by simp, fun _ => ?_⟩
    walk_at "ds"
    exact ⟨[], by simp⟩
  · rintro _ M1 ⟨rfl, Z, rfl⟩
    walk_at "ds"
    refine ⟨Z, ?_⟩
    congr 3
    unfold numbD openT
    rw [List.zipIdx_map, List.map_map, List.filter_map, List.map_map, List.map_map]
    congr 1
    congr 1
    funext q
    rcases q with ⟨o, i⟩
    cases o <;> rfl
def shO (pl : List Int) : Option Ln → Bool
  | none => false
  | some L' => L'.pl.any fun p => pl.any fun q => q == p
/-- a later open loan shares a place -/
def blk (Ls : List (Option Ln)) (t : Nat) (L : Ln) : Bool := (Ls.drop (t + 1)).any (shO L.pl)
end
/-! ### blocked, advance, answer, recall -/
theorem ints_flat {l : List Int} : (l.map D.int).all D.flat = true := by
  rw [List.all_eq_true]
  intro d hd
  obtain ⟨i, _, rfl⟩ := List.mem_map.mp hd
  rfl
theorem in_ints {l : List Int} {x : Int} {q : Nat} {M : Hd} (h : M[q]? = some (.lst (l.map D.int))) : inG false (.int x) (.ref q) M = some (.ok (.bl (l.any fun z => z == x)) M) := by
  unfold inG itemsD
  dsimp only
  rw [h]
  dsimp only
  rw [ints_flat, List.any_map]
  rfl
theorem any_bls {bs : List Bool} {q : Nat} {M : Hd} (h : M[q]? = some (.lst (bs.map D.bl))) : anyG (.ref q) M = some (.ok (.bl (bs.any id)) M) := by
  unfold anyG
  dsimp only
  rw [h]
  dsimp only
  have e : (bs.map D.bl).mapM blOf = some bs := by
    clear h
    induction bs with
    | nil => rfl
    | cons b bs ih => rw [List.map_cons, List.mapM_cons, ih]; rfl
  rw [e]
def shB (pl : List Int) : D → D
  | .int p => .bl (pl.any fun q => q == p)
  | d => d
section
variable {M : Hd} {v c l : Nat} {m : Int} {cs : List Int} {Ls : List (Option Ln)}
theorem blocked_ok (h : VAt M v c l m cs Ls) {t : Nat} {L : Ln} (hL : Ls[t]? = some (some L)) : Wp (m_Vault_blocked [.ref v, .int t] M) (okQ fun d M1 => d = .bl (blk Ls t L) ∧ ∃ Z, M1 = M ++ Z) := by
  have q := h.ln t L hL
  have htl := (List.getElem?_eq_some_iff.mp hL).1
  refine wp_mir rfl ?_
  unfold g_Vault_blocked
  walk_at "ds"
  rw [(fldV h.vv).2.2]
  walk_at "ds"
  rw [h.ll]
  walk_at "ds"
  rw [show atI (Ls.map lnD) (t : Int) = some (.ref L.a) from L2.atI_nat (by rw [List.getElem?_map, hL]; rfl)]
  walk_at "ds"
  rw [(fldL q.at_).2.1]
  walk_at "ds"
  rw [(fldV h.vv).2.2]
  walk_at "ds"
  rw [slice_ref h.ll]
  walk_at "ds"
  rw [cut_from (by rw [List.length_map]; omega), show ((t : Int) + 1).toNat = t + 1 by omega, ← List.map_drop]
  refine wp_forL (fun i r M1 => ∃ e1 e2 Z, r = [some (.ref v), some (.int t), some (.ref L.plr), e1, e2] ∧ M1 = M ++ O.lst ((Ls.drop (t + 1)).map lnD) :: Z ∧ ((Ls.drop (t + 1)).take i).any (shO L.pl) = false) ?_ ?_ ?_
  · rintro i d r M1 hd ⟨e1, e2, Z, rfl, rfl, hno⟩
    rw [List.getElem?_map] at hd
    obtain ⟨o, ho, rfl⟩ := Option.map_eq_some_iff.mp hd
    refine ⟨by simp only [still_one, still_nil, and_true]; exact get_here, _, rfl, ?_⟩
    have hsplit : ((Ls.drop (t + 1)).take (i + 1)).any (shO L.pl) = shO L.pl o := by
      rw [List.take_succ, ho, List.any_append, hno, Bool.false_or]
      simp
    cases o with
    | none =>
      rw [show lnD none = D.non from rfl]
      walk_at "di"
      exact ⟨_, _, Z, rfl, rfl, hsplit⟩
    | some L' =>
      rw [show lnD (some L') = D.ref L'.a from rfl]
      rw [List.getElem?_drop] at ho
      have q' := h.ln _ L' ho
      unfold sIf
      rw [wp_exB]
      walk_at "ds"
      refine (wp_comp (M := M ++ O.lst ((Ls.drop (t + 1)).map lnD) :: Z) (ds := L'.pl.map D.int) (gs := [(L'.plr, L'.pl.map D.int)]) (keep := fun _ => true) (val := shB L.pl) ?_ (fun Y => by simp only [still_one, still_nil, and_true]; exact get_old (get_old q'.la.pls)) (by have := q'.la.pn; have := q'.ok.hn; simp; omega) ?_).ok ?_
      · walk_at "ds"
        rw [(fldL (get_old q'.at_)).2.1]
        rw [bnd_ok]
        dsimp only
        rw [get_old q'.la.pls]
      · intro d hd Y
        obtain ⟨p, hp, rfl⟩ := List.mem_map.mp hd
        refine ⟨_, rfl, ?_⟩
        walk_at "ds"
        refine ⟨[], by simp, fun _ => ?_⟩
        walk_at "ds"
        rw [in_ints (get_old (get_old q.la.pls))]
        walk_at "ds"
        exact ⟨rfl, [], by simp⟩
      · rintro _ M2 ⟨rfl, Z2, rfl⟩
        have e : List.map (shB L.pl) (List.filter (fun _ => true) (L'.pl.map D.int)) = (L'.pl.map fun p => L.pl.any fun q => q == p).map D.bl := by
          have e : (L'.pl.map D.int).filter (fun _ => true) = L'.pl.map D.int := by simp
          rw [e, List.map_map, List.map_map]
          rfl
        have e2 : (L'.pl.map fun p => L.pl.any fun q => q == p).any id = shO L.pl (some L') := by
          rw [List.any_map]
          rfl
        rw [e]
        dsimp only
        rw [any_bls get_here, e2, List.append_assoc, List.cons_append]
        walk_at "ds"
        split
        · rename_i hb
          walk_at "ds"
          refine ⟨?_, _, rfl⟩
          congr 1
          symm
          unfold blk
          rw [List.any_eq_true]
          exact ⟨some L', List.mem_of_getElem? (by rw [List.getElem?_drop]; exact ho), hb⟩
        · rename_i hb
          walk_at "ds"
          rw [Bool.not_eq_true] at hb
          exact ⟨_, _, _, rfl, rfl, by rw [hsplit]; exact hb⟩
  · rintro r M1 ⟨e1, e2, Z, rfl, rfl, hno⟩
    rw [List.length_map, List.take_length] at hno
    refine ⟨by simp only [still_one, still_nil, and_true]; exact get_here, ?_⟩
    walk_at "ds"
    refine ⟨?_, _, rfl⟩
    congr 1
    exact hno.symm
  · exact ⟨none, none, [], rfl, rfl, rfl⟩
/-- the cells behind steps on places -/
def opsS (m : Int) (gs pl cs : List Int) (xs : List Sp_) : List Int := xs.foldl (opS m gs pl) cs
theorem opsS_len {gs pl : List Int} : ∀ {xs : List Sp_} {cs : List Int}, (opsS m gs pl cs xs).length = cs.length := by
  intro xs
  induction xs with
  | nil => intro cs; rfl
  | cons x xs ih =>
    intro cs
    show (opsS m gs pl (opS m gs pl cs x) xs).length = _
    rw [ih, opS_len]
theorem opsS_in {gs pl : List Int} (hm : 0 < m) : ∀ {xs : List Sp_} {cs : List Int}, (∀ v ∈ cs, 0 ≤ v ∧ v < m) → ∀ v ∈ opsS m gs pl cs xs, 0 ≤ v ∧ v < m := by
  intro xs
  induction xs with
  | nil => intro cs h; exact h
  | cons x xs ih =>
    intro cs h
    exact ih (opS_in hm h)
theorem opsS_take {gs pl : List Int} {xs : List Sp_} {cs : List Int} {i : Nat} {x : Sp_} (h : xs[i]? = some x) : opsS m gs pl cs (xs.take (i + 1)) = opS m gs pl (opsS m gs pl cs (xs.take i)) x := by
  unfold opsS
  rw [List.take_succ, h, List.foldl_append]
  rfl
/-- a vault's cells changed -/
theorem VAt.setc (h : VAt M v c l m cs Ls) {cs' : List Int} (hl : cs'.length = cs.length) (hi : ∀ x ∈ cs', 0 ≤ x ∧ x < m) : VAt (M.set c (.lst (cs'.map D.int))) v c l m cs' Ls := by
  have hx : ∀ {i : Nat} {o : O}, i ≠ c → M[i]? = some o → (M.set c (.lst (cs'.map D.int)))[i]? = some o := fun hne e => by
    rw [List.getElem?_set_ne (Ne.symm hne)]
    exact e
  have hins : ∀ {i : Nat} {cn fs}, M[i]? = some (.ins cn fs) → i ≠ c := fun e => by
    rintro rfl
    rw [h.cc] at e
    cases e
  have hcl : c ≠ l := by
    rintro rfl
    have e := h.cc.symm.trans h.ll
    have hl1 := h.cl.1
    cases cs with
    | nil => simp at hl1
    | cons x cs =>
      cases hLs : Ls with
      | nil => rw [hLs] at e; simp at e
      | cons o Ls' => rw [hLs] at e; cases o <;> simp [lnD] at e
  refine ⟨h.hm, hx (hins h.vv) h.vv, set_get h.cc, hx (Ne.symm hcl) h.ll, by rw [hl]; exact h.cl, h.nl, hi, fun i L e => ?_, h.ne⟩
  have q := h.ln i L e
  have hs : L.s ≠ c := by
    intro e2
    have e := h.cc.symm.trans (e2 ▸ q.pg.st)
    have hl1 := h.cl.1
    cases cs with
    | nil => simp at hl1
    | cons x cs =>
      cases hxs : L.xs with
      | nil => rw [hxs] at e; simp at e
      | cons y ys => rw [hxs] at e; cases y <;> simp [spd] at e
  refine ⟨hx (hins q.at_) q.at_, ⟨hx (hins q.pg.at_) q.pg.at_, hx hs q.pg.st⟩, ⟨hx q.la.np q.la.pls, hx q.la.ng q.la.gvs, q.la.np, q.la.ng, q.la.pn, q.la.gn, ?_, q.la.gin⟩, q.ok, q.nd, q.dl⟩
  rw [hl]
  exact q.la.pin
/-- steps of a loan on the cells -/
theorem steps_ok (h : VAt M v c l m cs Ls) {t : Nat} {L : Ln} (hL : Ls[t]? = some (some L)) {x : Sp_} (hx : SpOk m L.n L.k x) :
    Wp (m_Vault_perform [.ref v, .ref L.a, spd x] M) (okQ fun d M1 => ∃ Z, M1 = M.set c (.lst ((opS m L.gs L.pl cs x).map D.int)) ++ Z) := by
  have q := h.ln t L hL
  exact vperform_ok h.hm hx h.vv h.cc q.at_ q.la h.ci (by have := q.la.pn; have := q.ok.hn; omega)
end
/-! ### advance, answer, recall -/
theorem cut_mid {ds : List D} {a b : Int} (h : 0 ≤ a) (hb : a ≤ b) : cutD ds (some a) (some b) = (ds.drop a.toNat).take (b - a).toNat := by
  unfold cutD
  have e : ∀ (n : Nat) (d : Nat) (i : Int), 0 ≤ i → HT.sIx n d (some i) = min i.toNat n := by
    intro n d i hi
    unfold HT.sIx
    simp only [show ¬ i < 0 by omega, if_false]
    all_goals (split <;> omega)
  rw [e _ _ _ h, e _ _ _ (by omega)]
  apply List.ext_getElem?
  intro i
  rw [List.getElem?_take, List.getElem?_take, List.getElem?_drop, List.getElem?_drop]
  rcases Nat.lt_or_ge ds.length a.toNat with h1 | h1
  · rw [Nat.min_eq_right (Nat.le_of_lt h1), List.getElem?_eq_none (by omega), List.getElem?_eq_none (by omega)]
    split <;> split <;> rfl
  · rw [Nat.min_eq_left h1]
    rcases Nat.lt_or_ge (a.toNat + i) ds.length with h2 | h2
    · by_cases h3 : i < (b - a).toNat
      · rw [if_pos h3, if_pos (by omega)]
      · rw [if_neg h3, if_neg (by omega)]
    · rw [List.getElem?_eq_none h2]
      simp
section
variable {M : Hd} {v c l : Nat} {m : Int} {cs : List Int} {Ls : List (Option Ln)}
theorem lkV (M : Hd) (m : Int) (c l : Nat) {s : Str} (h1 : (s == "modulus") = false) (h2 : (s == "cells") = false) (h3 : (s == "loans") = false) : List.lookup s [(("modulus" : Str), D.int m), ("cells", .ref c), ("loans", .ref l)] = none := lk_vm h1 h2 h3
theorem vmeth_go {nm : Str} {mm : List D → Hd → Option (Rs D)} {fa : EF} {g : AF} {r : Ev} {M M1 M2 : Hd} {ds : List D} (h1 : fa r M = some (.ok (.ref v) M1)) (h2 : M1[v]? = some (vaultO m c l)) (n1 : (nm == "modulus") = false) (n2 : (nm == "cells") = false) (n3 : (nm == "loans") = false) (h4 : g r M1 = some (.ok ds M2)) : eMeth "Vault" nm mm fa g r M = mm (.ref v :: ds) M2 :=
  eMeth_go h1 h2 (lk_vm n1 n2 n3) h4
theorem lst_lnD {xs : List Int} {Ls : List (Option Ln)} (h : O.lst (xs.map D.int) = O.lst (Ls.map lnD)) (hl : 0 < Ls.length ∨ 0 < xs.length) : False := by
  cases Ls with
  | nil =>
    cases xs with
    | nil => simp at hl
    | cons x xs => simp at h
  | cons o Ls =>
    cases xs with
    | nil => simp at h
    | cons x xs => cases o <;> simp [lnD] at h
theorem lst_spd {xs : List Sp_} {Ls : List (Option Ln)} (h : O.lst (xs.map spd) = O.lst (Ls.map lnD)) (hl : 0 < Ls.length ∨ 0 < xs.length) : False := by
  cases Ls with
  | nil =>
    cases xs with
    | nil => simp at hl
    | cons x xs => simp at h
  | cons o Ls =>
    cases xs with
    | nil => simp at h
    | cons x xs => cases o <;> cases x <;> simp [lnD, spd] at h
theorem set_at {α : Type} {l : List α} {i j : Nat} {x y : α} (h : (l.set i x)[j]? = some y) : (i = j ∧ y = x) ∨ (i ≠ j ∧ l[j]? = some y) := by
  by_cases e : i = j
  · subst e
    have hl : i < l.length := by
      have := (List.getElem?_eq_some_iff.mp h).1
      rwa [List.length_set] at this
    rw [List.getElem?_set_self hl] at h
    exact .inl ⟨rfl, (Option.some.inj h).symm⟩
  · rw [List.getElem?_set_ne e] at h
    exact .inr ⟨e, h⟩
/-- further steps done -/
theorem VAt.setd (h : VAt M v c l m cs Ls) {t : Nat} {L : Ln} (hL : Ls[t]? = some (some L)) {dn : Nat} (hd : dn ≤ L.xs.length) : VAt (M.set L.a (loanO L.p L.plr L.gvr L.b dn)) v c l m cs (Ls.set t (some { L with dn := dn })) := by
  have q := h.ln t L hL
  have hx : ∀ {i : Nat} {o : O}, i ≠ L.a → M[i]? = some o → (M.set L.a (loanO L.p L.plr L.gvr L.b dn))[i]? = some o := fun hne e => by
    rw [List.getElem?_set_ne (Ne.symm hne)]
    exact e
  have hlst : ∀ {i : Nat} {ds}, M[i]? = some (O.lst ds) → i ≠ L.a := fun e => by
    rintro rfl
    rw [q.at_] at e
    cases e
  have hpg : ∀ {i : Nat} {m n k : Int} {s : Nat}, M[i]? = some (progO m n k s) → i ≠ L.a := fun e => by
    rintro rfl
    rw [q.at_] at e
    simp [progO, loanO] at e
  have hva : v ≠ L.a := by
    rintro rfl
    have e := h.vv.symm.trans q.at_
    simp [vaultO, loanO] at e
  have hmap : (Ls.set t (some { L with dn := dn })).map lnD = Ls.map lnD := by
    rw [List.map_set]
    apply List.ext_getElem?
    intro j
    by_cases e : t = j
    · subst e
      rw [List.getElem?_set_self (by rw [List.length_map]; exact (List.getElem?_eq_some_iff.mp hL).1), List.getElem?_map, hL]
      rfl
    · rw [List.getElem?_set_ne e]
  refine ⟨h.hm, hx hva h.vv, hx (hlst h.cc) h.cc, ?_, h.cl, by rw [List.length_set]; exact h.nl, h.ci, fun i L' e => ?_, fun i j L1 L2 e1 e2 hij => ?_⟩
  · rw [hmap]
    exact hx (hlst h.ll) h.ll
  · rcases set_at e with ⟨rfl, e5⟩ | ⟨hne, e⟩
    · cases e5
      exact ⟨set_get q.at_, ⟨hx (hpg q.pg.at_) q.pg.at_, hx (hlst q.pg.st) q.pg.st⟩, ⟨hx (hlst q.la.pls) q.la.pls, hx (hlst q.la.gvs) q.la.gvs, q.la.np, q.la.ng, q.la.pn, q.la.gn, q.la.pin, q.la.gin⟩, q.ok, q.nd, hd⟩
    · have q' := h.ln i L' e
      exact ⟨hx (h.ne i t L' L e hL (Ne.symm hne)) q'.at_, ⟨hx (hpg q'.pg.at_) q'.pg.at_, hx (hlst q'.pg.st) q'.pg.st⟩, ⟨hx (hlst q'.la.pls) q'.la.pls, hx (hlst q'.la.gvs) q'.la.gvs, q'.la.np, q'.la.ng, q'.la.pn, q'.la.gn, q'.la.pin, q'.la.gin⟩, q'.ok, q'.nd, q'.dl⟩
  · rcases set_at e1 with ⟨rfl, e5⟩ | ⟨n1, e1⟩
    · rcases set_at e2 with ⟨rfl, e6⟩ | ⟨n2, e2⟩
      · exact absurd rfl hij
      · cases e5
        exact h.ne t j L L2 hL e2 hij
    · rcases set_at e2 with ⟨rfl, e6⟩ | ⟨n2, e2⟩
      · cases e6
        exact h.ne i t L1 L e1 hL hij
      · exact h.ne i j L1 L2 e1 e2 hij
/-- a loan closed -/
theorem VAt.setn (h : VAt M v c l m cs Ls) {t : Nat} (ht : t < Ls.length) : VAt (M.set l (.lst ((Ls.set t none).map lnD))) v c l m cs (Ls.set t none) := by
  have hx : ∀ {i : Nat} {o : O}, i ≠ l → M[i]? = some o → (M.set l (.lst ((Ls.set t none).map lnD)))[i]? = some o := fun hne e => by
    rw [List.getElem?_set_ne (Ne.symm hne)]
    exact e
  have hins : ∀ {i : Nat} {cn fs}, M[i]? = some (.ins cn fs) → i ≠ l := fun e => by
    rintro rfl
    rw [h.ll] at e
    cases e
  have hint : ∀ {i : Nat} {xs : List Int}, M[i]? = some (.lst (xs.map D.int)) → i ≠ l := fun e => by
    rintro rfl
    rw [h.ll] at e
    exact lst_lnD (Option.some.inj e).symm (.inl (by omega))
  have hsp : ∀ {i : Nat} {xs : List Sp_}, M[i]? = some (.lst (xs.map spd)) → i ≠ l := fun e => by
    rintro rfl
    rw [h.ll] at e
    exact lst_spd (Option.some.inj e).symm (.inl (by omega))
  refine ⟨h.hm, hx (hins h.vv) h.vv, hx (hint h.cc) h.cc, set_get h.ll, h.cl, by rw [List.length_set]; exact h.nl, h.ci, fun i L' e => ?_, fun i j L1 L2 e1 e2 hij => ?_⟩
  · rcases set_at e with ⟨rfl, e5⟩ | ⟨hne, e⟩
    · cases e5
    · have q' := h.ln i L' e
      exact ⟨hx (hins q'.at_) q'.at_, ⟨hx (hins q'.pg.at_) q'.pg.at_, hx (hsp q'.pg.st) q'.pg.st⟩, ⟨hx (hint q'.la.pls) q'.la.pls, hx (hint q'.la.gvs) q'.la.gvs, q'.la.np, q'.la.ng, q'.la.pn, q'.la.gn, q'.la.pin, q'.la.gin⟩, q'.ok, q'.nd, q'.dl⟩
  · rcases set_at e1 with ⟨rfl, e5⟩ | ⟨n1, e1⟩
    · cases e5
    · rcases set_at e2 with ⟨rfl, e6⟩ | ⟨n2, e2⟩
      · cases e6
      · exact h.ne i j L1 L2 e1 e2 hij
theorem put_done {p pl gv : Nat} {b dn x : Int} : O.ins "Loan" (putFD "done" (.int x) [("program", .ref p), ("places", .ref pl), ("given", .ref gv), ("begun", .int b), ("done", .int dn)]) = loanO p pl gv b x := by
  unfold loanO
  congr 1
theorem fldA_go {cn f : Str} {g : G2} {fo fe : EF} {r : Ev} {M M1 M2 : Hd} {i : Nat} {fs fs2 : List (Str × D)} {d e z : D} (h1 : fo r M = some (.ok (.ref i) M)) (h2 : M[i]? = some (.ins cn fs)) (h3 : fs.lookup f = some d) (h4 : fe r M = some (.ok e M1)) (h5 : g d e M1 = some (.ok z M2)) (h6 : M2[i]? = some (.ins cn fs2)) (h7 : fs2.length < 1000) : sFldA cn f g fo fe r M = some (.nx r, M2.set i (.ins cn (putFD f z fs2))) := by
  unfold sFldA
  rw [h1, exB_ok]
  dsimp only
  rw [h2]
  dsimp only
  rw [if_pos rfl, h3]
  dsimp only
  rw [h4, exB_ok, h5, exB_ok, h6]
  dsimp only
  rw [if_pos ⟨rfl, h7⟩]
theorem advance_ok (h : VAt M v c l m cs Ls) {t : Nat} {L : Ln} (hL : Ls[t]? = some (some L)) (hb : blk Ls t L = false) {most : Int} (hmo : 0 ≤ most) :
    Wp (m_Vault_advance [.ref v, .int t, .int most] M) (okQ fun d M1 => d = .int ((L.xs.drop L.dn).take most.toNat).length ∧ ∃ Z, M1 = (M.set c (.lst ((opsS m L.gs L.pl cs ((L.xs.drop L.dn).take most.toNat)).map D.int))).set L.a (loanO L.p L.plr L.gvr L.b ((L.dn + ((L.xs.drop L.dn).take most.toNat).length : Nat) : Int)) ++ Z) := by
  have q := h.ln t L hL
  refine wp_mir rfl ?_
  unfold g_Vault_advance
  walk_at "ds"
  rw [vmeth_go (v := v) rfl h.vv (by decide +kernel) (by decide +kernel) (by decide +kernel) (ds := [.int t]) rfl, found_ok h (.inl rfl), opened_at hL]
  dsimp only
  walk_at "ds"
  refine wp_if2 (c := False) ?_ (fun q => q.elim) (fun _ => ?_)
  · walk_at "di"
    rw [is_integer_int]
    walk_at "di"
    exact ⟨_, rfl, by simp; omega⟩
  refine wp_nil ?_
  rw [wp_seq]
  refine Wp.imp (Q := fun o => ∃ Z, o = (Fl.nx [some (.ref v), some (.int t), some (.int most), some (.ref L.a), none, none], M ++ Z)) ?_ ?_
  · try unfold sIf
    rw [wp_exB]
    walk_at "ds"
    rw [vmeth_go (v := v) rfl h.vv (by decide +kernel) (by decide +kernel) (by decide +kernel) (ds := [.int t]) rfl]
    refine (blocked_ok h hL).ok ?_
    rintro _ _ ⟨rfl, Z, rfl⟩
    rw [hb]
    walk_at "ds"
    exact ⟨Z, rfl⟩
  rintro _ ⟨Z, rfl⟩
  have hA := h.app (X := Z)
  have qA := hA.ln t L hL
  walk_at "ds"
  rw [(fldL qA.at_).1]
  walk_at "ds"
  rw [(fldP qA.pg.at_).2.2.2]
  walk_at "ds"
  rw [(fldL qA.at_).2.2.2.2]
  walk_at "ds"
  rw [(fldL qA.at_).2.2.2.2]
  walk_at "ds"
  rw [slice_ref qA.pg.st, cut_mid (by omega) (by omega), Int.toNat_natCast, show ((L.dn : Int) + most - L.dn).toNat = most.toNat by omega, ← List.map_drop, ← List.map_take]
  walk_at "ds"
  generalize hys : (L.xs.drop L.dn).take most.toNat = ys
  have hyo : ∀ y ∈ ys, SpOk m L.n L.k y := fun y hy => by
    rw [← hys] at hy
    exact q.ok.hx y (List.mem_of_mem_drop (List.mem_of_mem_take hy))
  have hcA : c < (M ++ Z).length := (List.getElem?_eq_some_iff.mp hA.cc).1
  have haA : L.a < (M ++ Z).length := (List.getElem?_eq_some_iff.mp qA.at_).1
  generalize hMA : M ++ Z = A at hA qA hcA haA
  refine wp_forL (fun i r M1 => ∃ e Y, r = [some (.ref v), some (.int t), some (.int most), some (.ref L.a), some (.ref A.length), e] ∧ M1 = A.set c (.lst ((opsS m L.gs L.pl cs (ys.take i)).map D.int)) ++ O.lst (ys.map spd) :: Y) ?_ ?_ ?_
  · rintro i d r M1 hd ⟨e, Y, rfl, rfl⟩
    rw [List.getElem?_map] at hd
    obtain ⟨y, hyi, rfl⟩ := Option.map_eq_some_iff.mp hd
    have hst : (A.set c (.lst ((opsS m L.gs L.pl cs (ys.take i)).map D.int)) ++ O.lst (ys.map spd) :: Y)[A.length]? = some (.lst (ys.map spd)) := by
      have := get_here (M := A.set c (.lst ((opsS m L.gs L.pl cs (ys.take i)).map D.int))) (o := O.lst (ys.map spd)) (Z := Y)
      rw [List.length_set] at this
      exact this
    refine ⟨by simp only [still_one, still_nil, and_true]; exact hst, _, rfl, ?_⟩
    have hin := opsS_in (xs := ys.take i) (gs := L.gs) (pl := L.pl) (by have := h.hm; omega) h.ci
    have hB := (hA.setc opsS_len hin).app (X := O.lst (ys.map spd) :: Y)
    generalize hcs : opsS m L.gs L.pl cs (ys.take i) = cs' at hB
    walk_at "ds"
    rw [vmeth_go (v := v) rfl hB.vv (by decide +kernel) (by decide +kernel) (by decide +kernel) (ds := [.ref L.a, spd y]) rfl]
    refine (steps_ok hB hL (hyo y (List.mem_of_getElem? hyi))).ok ?_
    rintro d _ ⟨Z2, rfl⟩
    walk_at "ds"
    refine ⟨_, Y ++ Z2, rfl, ?_⟩
    rw [opsS_take hyi, hcs, get_setc (by rw [List.length_set]; exact hcA), List.set_set, List.append_assoc, List.cons_append]
  · rintro r M1 ⟨e, Y, rfl, rfl⟩
    rw [List.length_map, List.take_length]
    have hst : ∀ cs' : List Int, (A.set c (.lst (cs'.map D.int)) ++ O.lst (ys.map spd) :: Y)[A.length]? = some (.lst (ys.map spd)) := fun cs' => by
      have := get_here (M := A.set c (.lst (cs'.map D.int))) (o := O.lst (ys.map spd)) (Z := Y)
      rw [List.length_set] at this
      exact this
    refine ⟨by simp only [still_one, still_nil, and_true]; exact hst _, ?_⟩
    have hin := opsS_in (xs := ys) (gs := L.gs) (pl := L.pl) (by have := h.hm; omega) h.ci
    have hB := (hA.setc opsS_len hin).app (X := O.lst (ys.map spd) :: Y)
    have qB := hB.ln t L hL
    have hst := hst (opsS m L.gs L.pl cs ys)
    generalize hcs : opsS m L.gs L.pl cs ys = cs' at hB qB hst ⊢
    rw [nxQ_nx, wp_seq]
    refine wp_of_eq (fldA_go (i := L.a) (fs := [("program", .ref L.p), ("places", .ref L.plr), ("given", .ref L.gvr), ("begun", .int L.b), ("done", .int L.dn)]) (fs2 := [("program", .ref L.p), ("places", .ref L.plr), ("given", .ref L.gvr), ("begun", .int L.b), ("done", .int L.dn)]) (d := .int L.dn) (e := .int ys.length) (z := .int (L.dn + ys.length)) (M1 := A.set c (.lst (cs'.map D.int)) ++ O.lst (ys.map spd) :: Y) (M2 := A.set c (.lst (cs'.map D.int)) ++ O.lst (ys.map spd) :: Y) rfl qB.at_ ?_ ?_ rfl qB.at_ (by simp)) ?_
    · have := (fldL qB.at_).2.2.2.2
      unfold fldG at this
      dsimp only at this
      rw [qB.at_] at this
      unfold loanO at this
      dsimp only at this
      rw [if_pos rfl] at this
      cases e : List.lookup ("done" : Str) [("program", D.ref L.p), ("places", .ref L.plr), ("given", .ref L.gvr), ("begun", .int L.b), ("done", .int L.dn)] with
      | none => rw [e] at this; cases this
      | some d => rw [e] at this; cases this; rfl
    · simp only [eUn, eVar, List.getElem?_cons_zero, List.getElem?_cons_succ, bnd_ok]
      rw [lenD_ref hst, List.length_map]
    · rw [nxQ_nx, put_done]
      have hne : A.length ≠ L.a := by omega
      walk_at "ds"
      rw [List.getElem?_set_ne (Ne.symm hne), hst]
      walk_at "ds"
      rw [List.length_map]
      refine ⟨rfl, Z ++ O.lst (ys.map spd) :: Y, ?_⟩
      rw [get_setc (by rw [List.length_set]; exact haA), ← hMA, get_setc (List.getElem?_eq_some_iff.mp h.cc).1, get_setc (by rw [List.length_set]; exact (List.getElem?_eq_some_iff.mp q.at_).1), List.append_assoc]
      rfl
  · refine ⟨none, [], rfl, ?_⟩
    rw [List.take_zero]
    show A ++ _ = _
    rw [show opsS m L.gs L.pl cs [] = cs from rfl, set_same hA.cc]
end
section
variable {M : Hd} {v c l : Nat} {m : Int} {cs : List Int} {Ls : List (Option Ln)}
theorem blk_go {r : Ev} {A : Hd} {g : SF} {t : Nat} {L : Ln} {Q : Fl × Hd → Prop} (h : VAt A v c l m cs Ls) (hL : Ls[t]? = some (some L)) (h0 : r[0]? = some (some (.ref v))) (h1 : r[1]? = some (some (.int t)))
    (hy : blk Ls t L = true → ∀ Z, Q (.xx "Busy" r, A ++ Z)) (hn : blk Ls t L = false → ∀ Z, Wp (g r (A ++ Z)) Q) :
    Wp (sSeq (sIf (tTru (eMeth "Vault" "blocked" m_Vault_blocked (eVar 0) (aCons (eVar 1) aNil))) (sRaise "Busy") sNil) g r A) Q := by
  rw [wp_seq]
  unfold sIf
  rw [wp_exB]
  have e1 : ∀ M, eVar 0 r M = some (.ok (.ref v) M) := fun M => by unfold eVar; rw [h0]
  have e2 : ∀ M, eVar 1 r M = some (.ok (.int t) M) := fun M => by unfold eVar; rw [h1]
  simp only [tTru, wp_bnd]
  rw [vmeth_go (v := v) (e1 A) h.vv (by decide +kernel) (by decide +kernel) (by decide +kernel) (ds := [.int t]) (M2 := A) (by simp only [aCons, aNil, e2, bnd_ok])]
  refine (blocked_ok h hL).ok ?_
  rintro _ _ ⟨rfl, Z, rfl⟩
  cases hb : blk Ls t L with
  | true =>
    walk_at "ds"
    exact hy hb Z
  | false =>
    walk_at "ds"
    exact hn hb Z
theorem found_go {r : Ev} {d : D} {i : Nat} {g : SF} {Q : Fl × Hd → Prop} (h : VAt M v c l m cs Ls) (hd : Itm d) (h0 : r[0]? = some (some (.ref v))) (h1 : r[1]? = some (some d))
    (hy : ∀ L, opened Ls d = some L → Wp (g (r.set i (some (.ref L.a))) M) Q) (hn : opened Ls d = none → Q (.xx "BadTicket" r, M)) :
    Wp (sSeq (sAsg i (eMeth "Vault" "found" m_Vault_found (eVar 0) (aCons (eVar 1) aNil))) g r M) Q := by
  rw [wp_seq]
  unfold sAsg
  rw [wp_exB]
  have e1 : ∀ M, eVar 0 r M = some (.ok (.ref v) M) := fun M => by unfold eVar; rw [h0]
  have e2 : ∀ M, eVar 1 r M = some (.ok d M) := fun M => by unfold eVar; rw [h1]
  rw [vmeth_go (v := v) (e1 M) h.vv (by decide +kernel) (by decide +kernel) (by decide +kernel) (ds := [d]) (M2 := M) (by simp only [aCons, aNil, e2, bnd_ok]), found_ok h hd]
  cases e : opened Ls d with
  | none =>
    walk_at "ds"
    exact hn e
  | some L =>
    walk_at "ds"
    exact hy L e
/-- a ticket that is none -/
theorem no_ticket {d : D} (h : VAt M v c l m cs Ls) (hd : Itm d) (hn : opened Ls d = none) : (∀ most, m_Vault_advance [.ref v, d, most] M = some (.er "BadTicket" M)) ∧ m_Vault_answer [.ref v, d] M = some (.er "BadTicket" M) ∧ m_Vault_recall [.ref v, d] M = some (.er "BadTicket" M) := by
  refine ⟨fun most => ?_, ?_, ?_⟩
  · refine wp_eq ?_
    refine wp_mir rfl ?_
    unfold g_Vault_advance
    exact found_go h hd rfl rfl (fun L e => by rw [hn] at e; cases e) fun _ => rfl
  · refine wp_eq ?_
    refine wp_mir rfl ?_
    unfold g_Vault_answer
    exact found_go h hd rfl rfl (fun L e => by rw [hn] at e; cases e) fun _ => rfl
  · refine wp_eq ?_
    refine wp_mir rfl ?_
    unfold g_Vault_recall
    exact found_go h hd rfl rfl (fun L e => by rw [hn] at e; cases e) fun _ => rfl
/-- a blocked loan -/
theorem busy (h : VAt M v c l m cs Ls) {t : Nat} {L : Ln} (hL : Ls[t]? = some (some L)) (hb : blk Ls t L = true) :
    (∀ most : Int, 0 ≤ most → Wp (m_Vault_advance [.ref v, .int t, .int most] M) (fun o => ∃ Z, o = .er "Busy" (M ++ Z))) ∧ Wp (m_Vault_answer [.ref v, .int t] M) (fun o => ∃ Z, o = .er "Busy" (M ++ Z)) ∧ Wp (m_Vault_recall [.ref v, .int t] M) (fun o => ∃ Z, o = .er "Busy" (M ++ Z)) := by
  have ho := opened_at hL
  refine ⟨fun most hm => ?_, ?_, ?_⟩
  · refine wp_mir rfl ?_
    unfold g_Vault_advance
    refine found_go h (.inl rfl) rfl rfl (fun L' e => ?_) (fun e => by rw [ho] at e; cases e)
    rw [ho] at e
    cases e
    have hst : (startD N_Vault_advance.length [.ref v, .int t, .int most]).set 3 (some (.ref L.a)) = [some (.ref v), some (.int t), some (.int most), some (.ref L.a), none, none] := rfl
    rw [hst, wp_seq]
    refine wp_if2 (c := False) ?_ (fun q => q.elim) (fun _ => ?_)
    · walk_at "di"
      rw [is_integer_int]
      walk_at "di"
      exact ⟨_, rfl, by simp; omega⟩
    refine wp_nil ?_
    refine blk_go h hL rfl rfl (fun _ Z => ?_) fun e => ?_
    · rw [fnQ_xx]
      exact ⟨Z, rfl⟩
    · rw [hb] at e
      cases e
  · refine wp_mir rfl ?_
    unfold g_Vault_answer
    refine found_go h (.inl rfl) rfl rfl (fun L' e => ?_) (fun e => by rw [ho] at e; cases e)
    rw [ho] at e
    cases e
    refine blk_go h hL rfl rfl (fun _ Z => ?_) fun e => ?_
    · rw [fnQ_xx]
      exact ⟨Z, rfl⟩
    · rw [hb] at e
      cases e
  · refine wp_mir rfl ?_
    unfold g_Vault_recall
    refine found_go h (.inl rfl) rfl rfl (fun L' e => ?_) (fun e => by rw [ho] at e; cases e)
    rw [ho] at e
    cases e
    refine blk_go h hL rfl rfl (fun _ Z => ?_) fun e => ?_
    · rw [fnQ_xx]
      exact ⟨Z, rfl⟩
    · rw [hb] at e
      cases e
theorem answer_okV (h : VAt M v c l m cs Ls) {t : Nat} {L : Ln} (hL : Ls[t]? = some (some L)) (hb : blk Ls t L = false) :
    Wp (m_Vault_answer [.ref v, .int t] M) (fun o => ∃ Z, o = if L.dn < L.xs.length then .er "Busy" (M ++ Z) else .ok (.int ((cg cs (cg L.pl 0) - L.b) % m)) (M ++ Z)) := by
  have ho := opened_at hL
  have q0 := h.ln t L hL
  refine wp_mir rfl ?_
  unfold g_Vault_answer
  refine found_go h (.inl rfl) rfl rfl (fun L' e => ?_) (fun e => by rw [ho] at e; cases e)
  rw [ho] at e
  cases e
  refine blk_go h hL rfl rfl (fun e Z => by rw [hb] at e; cases e) fun _ Z => ?_
  have hA := h.app (X := Z)
  have q := hA.ln t L hL
  have hst : (startD N_Vault_answer.length [.ref v, .int t]).set 2 (some (.ref L.a)) = [some (.ref v), some (.int t), some (.ref L.a)] := rfl
  rw [hst, wp_seq]
  refine wp_if2 (c := L.dn < L.xs.length) ?_ (fun hc => ?_) (fun hc => ?_)
  · walk_at "di"
    rw [(fldL q.at_).2.2.2.2]
    walk_at "di"
    rw [(fldL q.at_).1]
    walk_at "di"
    rw [(fldP q.pg.at_).2.2.2]
    walk_at "di"
    rw [q.pg.st]
    walk_at "di"
    exact ⟨_, rfl, by simp⟩
  · walk_at "ds"
    exact ⟨Z, by rw [if_pos hc]⟩
  · refine wp_nil ?_
    have hpl : 0 < L.pl.length := by have := q.la.pn; have := q.ok.hn; omega
    have hp0 : 0 ≤ cg L.pl 0 ∧ cg L.pl 0 < cs.length := by
      have e : cg L.pl 0 ∈ L.pl := by
        unfold cg
        rw [show (0 : Int).toNat = 0 from rfl, List.getD_eq_getElem?_getD, List.getElem?_eq_getElem hpl]
        exact List.getElem_mem hpl
      exact q.la.pin _ e
    walk_at "ds"
    rw [(fldV hA.vv).2.1]
    walk_at "ds"
    rw [(fldL q.at_).2.1]
    walk_at "ds"
    rw [q.la.pls]
    walk_at "ds"
    rw [atI_cs (by omega)]
    walk_at "ds"
    rw [hA.cc]
    walk_at "ds"
    rw [atI_cs hp0]
    walk_at "ds"
    rw [(fldL q.at_).2.2.2.1]
    walk_at "ds"
    rw [(fldV hA.vv).1]
    walk_at "ds"
    rw [modG_ok (by have := h.hm; omega)]
    walk_at "ds"
    exact ⟨Z, by rw [if_neg hc]⟩
theorem recall_ok (h : VAt M v c l m cs Ls) {t : Nat} {L : Ln} (hL : Ls[t]? = some (some L)) (hb : blk Ls t L = false) :
    Wp (m_Vault_recall [.ref v, .int t] M) (okQ fun d M1 => d = .int L.dn ∧ ∃ Z, M1 = (M.set c (.lst ((opsS m L.gs L.pl cs (backS m (L.xs.take L.dn))).map D.int))).set l (.lst ((Ls.set t none).map lnD)) ++ Z) := by
  have ho := opened_at hL
  have q0 := h.ln t L hL
  have htl := (List.getElem?_eq_some_iff.mp hL).1
  refine wp_mir rfl ?_
  unfold g_Vault_recall
  refine found_go h (.inl rfl) rfl rfl (fun L' e => ?_) (fun e => by rw [ho] at e; cases e)
  rw [ho] at e
  cases e
  refine blk_go h hL rfl rfl (fun e Z => by rw [hb] at e; cases e) fun _ Z => ?_
  have hA := h.app (X := Z)
  have q := hA.ln t L hL
  have hst : (startD N_Vault_recall.length [.ref v, .int t]).set 2 (some (.ref L.a)) = [some (.ref v), some (.int t), some (.ref L.a), none, none] := rfl
  rw [hst]
  walk_at "ds"
  rw [(fldL q.at_).1]
  walk_at "ds"
  rw [(fldP q.pg.at_).2.2.2]
  walk_at "ds"
  rw [(fldL q.at_).2.2.2.2]
  walk_at "ds"
  rw [slice_ref q.pg.st, cut_to (by have := q.dl; rw [List.length_map]; omega), Int.toNat_natCast, ← List.map_take]
  walk_at "ds"
  rw [revG_of get_here]
  walk_at "ds"
  have hdl := q.dl
  generalize hys : L.xs.take L.dn = ys
  have hyl : ys.length = L.dn := by rw [← hys, List.length_take]; omega
  have hyo : ∀ y ∈ ys, SpOk m L.n L.k y := fun y hy => by
    rw [← hys] at hy
    exact q.ok.hx y (List.mem_of_mem_take hy)
  have hcA : c < (M ++ Z).length := (List.getElem?_eq_some_iff.mp hA.cc).1
  have hlA : l < (M ++ Z).length := (List.getElem?_eq_some_iff.mp hA.ll).1
  have hrev : (ys.map spd).reverse = ys.reverse.map spd := by rw [List.map_reverse]
  rw [hrev]
  generalize hMA : M ++ Z = A at hA q hcA hlA
  have e1 : (A ++ [O.lst (ys.map spd)])[(A ++ [O.lst (ys.map spd)] ++ [O.lst (ys.reverse.map spd)]).length - 1]? = none := by simp
  clear e1
  have hll : (A ++ [O.lst (ys.map spd)]).length = A.length + 1 := by simp
  rw [hll]
  have hop : ∀ (i : Nat) (y : Sp_), ys.reverse[i]? = some y → opsS m L.gs L.pl cs ((ys.reverse.take (i + 1)).map (invS m)) = opS m L.gs L.pl (opsS m L.gs L.pl cs ((ys.reverse.take i).map (invS m))) (invS m y) := fun i y hy => by
    unfold opsS
    rw [List.take_succ, hy, List.map_append, List.foldl_append]
    rfl
  refine wp_forL (fun i r M1 => ∃ e Y, r = [some (.ref v), some (.int t), some (.ref L.a), some (.ref A.length), e] ∧ M1 = A.set c (.lst ((opsS m L.gs L.pl cs ((ys.reverse.take i).map (invS m))).map D.int)) ++ O.lst (ys.map spd) :: O.lst (ys.reverse.map spd) :: Y) ?_ ?_ ?_
  · rintro i d r M1 hd ⟨e, Y, rfl, rfl⟩
    rw [List.getElem?_map] at hd
    obtain ⟨y, hyi, rfl⟩ := Option.map_eq_some_iff.mp hd
    have hyi2 := List.mem_reverse.mp (List.mem_of_getElem? hyi)
    have hst : (A.set c (.lst ((opsS m L.gs L.pl cs ((ys.reverse.take i).map (invS m))).map D.int)) ++ O.lst (ys.map spd) :: O.lst (ys.reverse.map spd) :: Y)[A.length + 1]? = some (.lst (ys.reverse.map spd)) := by
      have := get_mid2 (A := A.set c (.lst ((opsS m L.gs L.pl cs ((ys.reverse.take i).map (invS m))).map D.int))) (a := O.lst (ys.map spd)) (b := O.lst (ys.reverse.map spd)) (B := Y)
      rw [List.length_set] at this
      exact this
    refine ⟨by simp only [still_one, still_nil, and_true]; exact hst, _, rfl, ?_⟩
    have hin := opsS_in (xs := (ys.reverse.take i).map (invS m)) (gs := L.gs) (pl := L.pl) (by have := h.hm; omega) h.ci
    have hB := (hA.setc opsS_len hin).app (X := O.lst (ys.map spd) :: O.lst (ys.reverse.map spd) :: Y)
    have hopi := hop i y hyi
    generalize hcs : opsS m L.gs L.pl cs ((ys.reverse.take i).map (invS m)) = cs' at hB hopi
    walk_at "ds"
    have harg : ∀ r0 r1 r3 : Option D, aCons (eVar 2) (aCons (eCall m_inverse_step (aCons (eVar 4) (aCons (eUn (fldG "Vault" "modulus") (eVar 0)) aNil))) aNil) [some (.ref v), r1, some (.ref L.a), r3, some (spd y)] (A.set c (.lst (cs'.map D.int)) ++ O.lst (ys.map spd) :: O.lst (ys.reverse.map spd) :: Y) = some (.ok [.ref L.a, spd (invS m y)] (A.set c (.lst (cs'.map D.int)) ++ O.lst (ys.map spd) :: O.lst (ys.reverse.map spd) :: Y)) := fun r0 r1 r3 => by
      simp only [aCons, aNil, eVar, eCall, eUn, List.getElem?_cons_zero, List.getElem?_cons_succ, bnd_ok]
      rw [(fldV hB.vv).1]
      simp only [bnd_ok]
      rw [inverse_step_ok h.hm (hyo y hyi2)]
      simp only [bnd_ok]
    rw [vmeth_go (v := v) rfl hB.vv (by decide +kernel) (by decide +kernel) (by decide +kernel) (ds := [.ref L.a, spd (invS m y)]) (harg none _ _)]
    refine (steps_ok hB hL (invS_ok h.hm (hyo y hyi2))).ok ?_
    rintro d _ ⟨Z2, rfl⟩
    walk_at "ds"
    refine ⟨_, Y ++ Z2, rfl, ?_⟩
    rw [hopi, get_setc (by rw [List.length_set]; exact hcA), List.set_set, List.append_assoc, List.cons_append, List.cons_append]
  · rintro r M1 ⟨e, Y, rfl, rfl⟩
    rw [List.length_map, List.take_length]
    have hbk : (ys.reverse.map (invS m)) = backS m ys := by unfold backS; rw [List.map_reverse]
    rw [hbk]
    have hin := opsS_in (xs := backS m ys) (gs := L.gs) (pl := L.pl) (by have := h.hm; omega) h.ci
    have hB := (hA.setc opsS_len hin).app (X := O.lst (ys.map spd) :: O.lst (ys.reverse.map spd) :: Y)
    generalize hcs : opsS m L.gs L.pl cs (backS m ys) = cs' at hB ⊢
    have hst : (A.set c (.lst (cs'.map D.int)) ++ O.lst (ys.map spd) :: O.lst (ys.reverse.map spd) :: Y)[A.length + 1]? = some (.lst (ys.reverse.map spd)) := by
      have := get_mid2 (A := A.set c (.lst (cs'.map D.int))) (a := O.lst (ys.map spd)) (b := O.lst (ys.reverse.map spd)) (B := Y)
      rw [List.length_set] at this
      exact this
    have hst0 : (A.set c (.lst (cs'.map D.int)) ++ O.lst (ys.map spd) :: O.lst (ys.reverse.map spd) :: Y)[A.length]? = some (.lst (ys.map spd)) := by
      have := get_here (M := A.set c (.lst (cs'.map D.int))) (o := O.lst (ys.map spd)) (Z := O.lst (ys.reverse.map spd) :: Y)
      rw [List.length_set] at this
      exact this
    refine ⟨by simp only [still_one, still_nil, and_true]; exact hst, ?_⟩
    walk_at "ds"
    rw [(fldV hB.vv).2.2]
    walk_at "ds"
    rw [hB.ll]
    dsimp only
    rw [List.length_map, ixN_in (by omega)]
    walk_at "ds"
    rw [List.getElem?_set_ne (show l ≠ A.length by omega), hst0]
    walk_at "ds"
    rw [List.length_map, hyl]
    refine ⟨rfl, Z ++ O.lst (ys.map spd) :: O.lst (ys.reverse.map spd) :: Y, ?_⟩
    have hmap : (Ls.map lnD).set (t : Int).toNat D.non = (Ls.set t none).map lnD := by rw [List.map_set]; rfl
    rw [hmap, get_setc (by rw [List.length_set]; exact hlA), ← hMA, get_setc (List.getElem?_eq_some_iff.mp h.cc).1, get_setc (by rw [List.length_set]; exact (List.getElem?_eq_some_iff.mp h.ll).1), List.append_assoc]
  · refine ⟨none, [], rfl, ?_⟩
    rw [List.take_zero, List.map_nil, show opsS m L.gs L.pl cs [] = cs from rfl, set_same hA.cc]
    simp
end
/-! ### lend, new vaults -/
theorem sl3 {x y z : D} {s1 s2 s3 : Str} : putFD s3 z (putFD s2 y (putFD s1 x [])) = putFD s3 z (putFD s2 y [(s1, x)]) := rfl
theorem lf2 {x y : D} : putFD "places" y [("program", x)] = ([("program", x), ("places", y)] : List (Str × D)) := by
  unfold putFD
  rw [if_neg (by decide +kernel)]
  rfl
theorem lf3 {x y z : D} : putFD "given" z [("program", x), ("places", y)] = ([("program", x), ("places", y), ("given", z)] : List (Str × D)) := by
  unfold putFD
  rw [if_neg (by decide +kernel)]
  unfold putFD
  rw [if_neg (by decide +kernel)]
  rfl
theorem lf4 {x y z u : D} : putFD "begun" u [("program", x), ("places", y), ("given", z)] = ([("program", x), ("places", y), ("given", z), ("begun", u)] : List (Str × D)) := by
  unfold putFD
  rw [if_neg (by decide +kernel)]
  unfold putFD
  rw [if_neg (by decide +kernel)]
  unfold putFD
  rw [if_neg (by decide +kernel)]
  rfl
theorem lf5 {x y z u w : D} : putFD "done" w [("program", x), ("places", y), ("given", z), ("begun", u)] = ([("program", x), ("places", y), ("given", z), ("begun", u), ("done", w)] : List (Str × D)) := by
  unfold putFD
  rw [if_neg (by decide +kernel)]
  unfold putFD
  rw [if_neg (by decide +kernel)]
  unfold putFD
  rw [if_neg (by decide +kernel)]
  unfold putFD
  rw [if_neg (by decide +kernel)]
  rfl
theorem loan_init {p pl gv : Nat} {b : Int} {i : Nat} {M : Hd} (hi : M[i]? = some (.ins "Loan" [])) : m_Loan___init__ [.ref i, .ref p, .ref pl, .ref gv, .int b] M = some (.ok .non (M.set i (loanO p pl gv b 0))) := by
  refine wp_eq ?_
  refine wp_mir rfl ?_
  unfold g_Loan___init__
  have hst : startD N_Loan___init__.length [.ref i, .ref p, .ref pl, .ref gv, .int b] = [some (.ref i), some (.ref p), some (.ref pl), some (.ref gv), some (.int b)] := rfl
  rw [hst]
  have h1 := set_get (o2 := .ins "Loan" [("program", .ref p)]) hi
  refine fld_go (d := .ref p) rfl rfl hi (by decide) ?_
  rw [show putFD "program" (.ref p) [] = ([("program", .ref p)] : List (Str × D)) from rfl]
  have h2 := set_get (o2 := .ins "Loan" [("program", .ref p), ("places", .ref pl)]) h1
  refine fld_go (d := .ref pl) rfl rfl h1 (by simp) ?_
  rw [lf2]
  have h3 := set_get (o2 := .ins "Loan" [("program", .ref p), ("places", .ref pl), ("given", .ref gv)]) h2
  refine fld_go (d := .ref gv) rfl rfl h2 (by simp) ?_
  rw [lf3]
  have h4 := set_get (o2 := .ins "Loan" [("program", .ref p), ("places", .ref pl), ("given", .ref gv), ("begun", .int b)]) h3
  refine fld_go (d := .int b) rfl rfl h3 (by simp) ?_
  rw [lf4]
  refine wp_of_eq (fld_eq (d := .int 0) rfl rfl h4 (by simp)) ?_
  rw [fnQ_nx, lf5, List.set_set, List.set_set, List.set_set, List.set_set]
  rfl
section
variable {M : Hd} {v c l : Nat} {m : Int} {cs : List Int} {Ls : List (Option Ln)}
theorem places_go {r1 r3 r6 : Option D} {pl : List Int} {q : Nat} (h : VAt M v c l m cs Ls) (hq : M[q]? = some (O.lst (pl.map D.int))) (hp : ∀ p ∈ pl, 0 ≤ p ∧ p < cs.length) (hn : pl.Nodup) (hl : pl.length ≤ 60) {g : SF} {Q : Fl × Hd → Prop} (hgo : ∀ e, Wp (g [some (.ref v), r1, some (.ref q), r3, some (.ref M.length), e, r6] (M ++ [O.lst (pl.map D.int)])) Q) :
    Wp (sSeq (sFor (seqI (eVar 2)) (.nm 5) (sSeq (sIf (tOr (tNot (tTru (eCall m_is_number (aCons (eVar 5) (aCons (eUn lenD (eUn (fldG "Vault" "cells") (eVar 0))) aNil))))) (tVal (eOp (inG false) (eVar 5) (eVar 4)))) (sRaise "BadMemory") sNil)
 (sDrop (eLm appendG (eVar 4) (aCons (eVar 5) aNil))))) g [some (.ref v), r1, some (.ref q), r3, some (.ref M.length), none, r6] (M ++ [O.lst []])) Q := by
  rw [wp_seq]
  walk_at "ds"
  rw [get_old hq]
  walk_at "ds"
  refine wp_forL (fun i r M1 => ∃ e, r = [some (.ref v), r1, some (.ref q), r3, some (.ref M.length), e, r6] ∧ M1 = M ++ [O.lst ((pl.take i).map D.int)]) ?_ ?_ ?_
  · rintro i d r M1 hd ⟨e, rfl, rfl⟩
    rw [List.getElem?_map] at hd
    obtain ⟨p, hpi, rfl⟩ := Option.map_eq_some_iff.mp hd
    have hpm := List.mem_of_getElem? hpi
    have hil := (List.getElem?_eq_some_iff.mp hpi).1
    refine ⟨by simp only [still_one, still_nil, and_true]; exact get_old hq, _, rfl, ?_⟩
    have hno : (pl.take i).any (fun z => z == p) = false := by
      rw [List.any_eq_false]
      intro z hz hzp
      rw [beq_iff_eq] at hzp
      subst hzp
      obtain ⟨j, hj⟩ := List.getElem?_of_mem hz
      rw [List.getElem?_take] at hj
      split at hj
      · rename_i hji
        have := (List.getElem?_inj (by omega) hn).mp (hj.trans hpi.symm)
        omega
      · cases hj
    have hcc := get_old (Z := [O.lst ((pl.take i).map D.int)]) h.cc
    have hvv := get_old (Z := [O.lst ((pl.take i).map D.int)]) h.vv
    rw [wp_seq]
    refine wp_if2 (c := False) ?_ (fun q => q.elim) (fun _ => ?_)
    · walk_at "di"
      rw [(fldV hvv).2.1]
      walk_at "di"
      rw [hcc]
      walk_at "di"
      rw [List.length_map, is_number_itm (.inl rfl), numB_iff.mpr ⟨p, rfl, hp p hpm⟩]
      walk_at "di"
      rw [in_ints get_here, hno]
      walk_at "di"
      exact ⟨_, rfl, by simp⟩
    refine wp_nil ?_
    walk_at "ds"
    rw [List.length_map, List.length_take, if_pos (by omega)]
    refine ⟨_, rfl, ?_⟩
    rw [List.take_succ, hpi]
    simp
  · rintro r M1 ⟨e, rfl, rfl⟩
    rw [List.length_map, List.take_length]
    refine ⟨by simp only [still_one, still_nil, and_true]; exact get_old hq, ?_⟩
    rw [nxQ_nx]
    exact hgo e
  · exact ⟨none, rfl, by simp⟩
theorem lend_ok (h : VAt M v c l m cs Ls) {n k : Int} {xs : List Sp_} {pl gs : List Int} {z s q u : Nat} (hpg : PrgAt M z s m n k xs) (hq : M[q]? = some (O.lst (pl.map D.int))) (hu : M[u]? = some (O.lst (gs.map D.int))) (hpn : (pl.length : Int) = n) (hn : 1 ≤ n ∧ n ≤ 60) (hp : ∀ p ∈ pl, 0 ≤ p ∧ p < cs.length) (hnd : pl.Nodup) (hgk : (gs.length : Int) = k) (hg : ∀ x ∈ gs, 0 ≤ x ∧ x < m) (hlL : Ls.length < 1000) :
    Wp (m_Vault_lend [.ref v, .ref z, .ref q, .ref u] M) (okQ fun d M1 => d = .int Ls.length ∧ M1 = M.set l (.lst (Ls.map lnD ++ [.ref (M.length + 2)])) ++ [.lst (pl.map D.int), .lst (gs.map D.int), loanO z M.length (M.length + 1) (cg cs (cg pl 0)) 0]) := by
  have hpl : 0 < pl.length := by omega
  have hp0 : 0 ≤ cg pl 0 ∧ cg pl 0 < cs.length := by
    refine hp _ ?_
    unfold cg
    rw [show (0 : Int).toNat = 0 from rfl, List.getD_eq_getElem?_getD, List.getElem?_eq_getElem hpl]
    exact List.getElem_mem hpl
  refine wp_mir rfl ?_
  unfold g_Vault_lend
  have hst : startD N_Vault_lend.length [.ref v, .ref z, .ref q, .ref u] = [some (.ref v), some (.ref z), some (.ref q), some (.ref u), none, none, none] := rfl
  rw [hst, wp_seq]
  refine wp_if2 (c := False) ?_ (fun q => q.elim) (fun _ => ?_)
  · walk_at "di"
    rw [(fldP hpg.at_).1]
    walk_at "di"
    rw [(fldV h.vv).1]
    walk_at "di"
    exact ⟨_, rfl, by simp⟩
  refine wp_nil ?_
  rw [wp_seq]
  refine wp_if2 (c := False) ?_ (fun q => q.elim) (fun _ => ?_)
  · walk_at "di"
    rw [isiG_ref hq]
    walk_at "di"
    rw [hq]
    walk_at "di"
    rw [(fldP hpg.at_).2.1]
    walk_at "di"
    exact ⟨_, rfl, by simp; omega⟩
  refine wp_nil ?_
  rw [wp_seq]
  refine wp_of_eq (o := (Fl.nx [some (.ref v), some (.ref z), some (.ref q), some (.ref u), some (.ref M.length), none, none], M ++ [O.lst []])) rfl ?_
  rw [nxQ_nx]
  refine places_go h hq hp hnd (by omega) fun e => ?_
  have hvv := get_old (Z := [O.lst (pl.map D.int)]) h.vv
  have hcc := get_old (Z := [O.lst (pl.map D.int)]) h.cc
  have hll := get_old (Z := [O.lst (pl.map D.int)]) h.ll
  have hzz := get_old (Z := [O.lst (pl.map D.int)]) hpg.at_
  have huu := get_old (Z := [O.lst (pl.map D.int)]) hu
  walk_at "ds"
  rw [(fldP hzz).2.2.1]
  walk_at "ds"
  rw [(fldV hvv).1]
  walk_at "ds"
  rw [check_numbers_ok huu hgk hg]
  walk_at "ds"
  unfold eMake
  walk_at "ds"
  rw [listG_ref huu]
  walk_at "ds"
  rw [(fldV (get_old hvv)).2.1]
  walk_at "ds"
  rw [get_old get_here]
  walk_at "ds"
  rw [atI_cs (by omega)]
  walk_at "ds"
  rw [get_old hcc]
  walk_at "ds"
  rw [atI_cs hp0]
  walk_at "ds"
  rw [loan_init get_here]
  have hset : (M ++ [O.lst (pl.map D.int)] ++ [O.lst (gs.map D.int)] ++ [O.ins "Loan" []]).set (M ++ [O.lst (pl.map D.int)] ++ [O.lst (gs.map D.int)]).length (loanO z M.length (M ++ [O.lst (pl.map D.int)]).length (cg cs (cg pl 0)) 0) = M ++ [O.lst (pl.map D.int), O.lst (gs.map D.int), loanO z M.length (M.length + 1) (cg cs (cg pl 0)) 0] := by
    rw [set_here]
    simp
  rw [hset, show (M ++ [O.lst (pl.map D.int)] ++ [O.lst (gs.map D.int)]).length = M.length + 2 by simp]
  generalize hX : [O.lst (pl.map D.int), O.lst (gs.map D.int), loanO z M.length (M.length + 1) (cg cs (cg pl 0)) 0] = X
  have hll2 := get_old (Z := X) h.ll
  have hvv2 := get_old (Z := X) h.vv
  walk_at "ds"
  rw [(fldV hvv2).2.2]
  walk_at "ds"
  rw [hll2]
  walk_at "ds"
  rw [List.length_map, if_pos (by omega)]
  have hlM : l < M.length := (List.getElem?_eq_some_iff.mp h.ll).1
  rw [get_setc hlM]
  have hvl : v ≠ l := by
    rintro rfl
    have e := h.vv.symm.trans h.ll
    simp [vaultO] at e
  have hvv3 : (M.set l (O.lst (Ls.map lnD ++ [D.ref (M.length + 2)])) ++ X)[v]? = some (vaultO m c l) := by
    refine get_old ?_
    rw [List.getElem?_set_ne (Ne.symm hvl)]
    exact h.vv
  have hll3 : (M.set l (O.lst (Ls.map lnD ++ [D.ref (M.length + 2)])) ++ X)[l]? = some (O.lst (Ls.map lnD ++ [D.ref (M.length + 2)])) := get_old (set_get h.ll)
  rw [(fldV hvv3).2.2]
  walk_at "ds"
  rw [hll3]
  walk_at "ds"
  rw [List.length_append, List.length_map]
  simp
/-- the vault with a loan more -/
theorem VAt.add (h : VAt M v c l m cs Ls) {z s : Nat} {n k : Int} {xs : List Sp_} {pl gs : List Int} {b : Int} (hpg : PrgAt M z s m n k xs) (hs : s ≠ l) (ok : PgOk m n k xs 20000) (hpn : (pl.length : Int) = n) (hp : ∀ p ∈ pl, 0 ≤ p ∧ p < cs.length) (hnd : pl.Nodup) (hgk : (gs.length : Int) = k) (hg : ∀ x ∈ gs, 0 ≤ x ∧ x < m) (hlL : Ls.length < 1000) :
    VAt (M.set l (.lst (Ls.map lnD ++ [.ref (M.length + 2)])) ++ [.lst (pl.map D.int), .lst (gs.map D.int), loanO z M.length (M.length + 1) b 0]) v c l m cs (Ls ++ [some { n := n, k := k, xs := xs, pl := pl, gs := gs, b := b, dn := 0, a := M.length + 2, p := z, s := s, plr := M.length, gvr := M.length + 1 }]) := by
  have hcM : c < M.length := (List.getElem?_eq_some_iff.mp h.cc).1
  have hx : ∀ {i : Nat} {o : O}, i ≠ l → M[i]? = some o → (M.set l (.lst (Ls.map lnD ++ [.ref (M.length + 2)])) ++ [.lst (pl.map D.int), .lst (gs.map D.int), loanO z M.length (M.length + 1) b 0])[i]? = some o := fun hne e => by
    refine get_old ?_
    rw [List.getElem?_set_ne (Ne.symm hne)]
    exact e
  have hins : ∀ {i : Nat} {cn fs}, M[i]? = some (.ins cn fs) → i ≠ l := fun e => by
    rintro rfl
    rw [h.ll] at e
    cases e
  have hcl : c ≠ l := by
    rintro rfl
    exact lst_lnD (Option.some.inj (h.cc.symm.trans h.ll)) (.inr (by have := h.cl; omega))
  have hlen : (M.set l (O.lst (Ls.map lnD ++ [.ref (M.length + 2)]))).length = M.length := List.length_set
  have g0 : (M.set l (.lst (Ls.map lnD ++ [.ref (M.length + 2)])) ++ [.lst (pl.map D.int), .lst (gs.map D.int), loanO z M.length (M.length + 1) b 0])[M.length]? = some (O.lst (pl.map D.int)) := by
    rw [List.getElem?_append_right (by omega), hlen, Nat.sub_self]
    rfl
  have g1 : (M.set l (.lst (Ls.map lnD ++ [.ref (M.length + 2)])) ++ [.lst (pl.map D.int), .lst (gs.map D.int), loanO z M.length (M.length + 1) b 0])[M.length + 1]? = some (O.lst (gs.map D.int)) := by
    rw [List.getElem?_append_right (by omega), hlen, Nat.add_sub_cancel_left]
    rfl
  have g2 : (M.set l (.lst (Ls.map lnD ++ [.ref (M.length + 2)])) ++ [.lst (pl.map D.int), .lst (gs.map D.int), loanO z M.length (M.length + 1) b 0])[M.length + 2]? = some (loanO z M.length (M.length + 1) b 0) := by
    rw [List.getElem?_append_right (by omega), hlen, Nat.add_sub_cancel_left]
    rfl
  refine ⟨h.hm, hx (hins h.vv) h.vv, hx hcl h.cc, ?_, h.cl, by rw [List.length_append]; exact hlL, h.ci, fun i L' e => ?_, fun i j L1 L2 e1 e2 hij => ?_⟩
  · rw [List.map_append]
    exact get_old (set_get h.ll)
  · rw [List.getElem?_append] at e
    split at e
    · have q' := h.ln i L' e
      have hne : 0 < Ls.length := by omega
      have hint : ∀ {i : Nat} {xs : List Int}, M[i]? = some (.lst (xs.map D.int)) → i ≠ l := fun e => by
        rintro rfl
        rw [h.ll] at e
        exact lst_lnD (Option.some.inj e).symm (.inl hne)
      have hsp : ∀ {i : Nat} {xs : List Sp_}, M[i]? = some (.lst (xs.map spd)) → i ≠ l := fun e => by
        rintro rfl
        rw [h.ll] at e
        exact lst_spd (Option.some.inj e).symm (.inl hne)
      exact ⟨hx (hins q'.at_) q'.at_, ⟨hx (hins q'.pg.at_) q'.pg.at_, hx (hsp q'.pg.st) q'.pg.st⟩, ⟨hx (hint q'.la.pls) q'.la.pls, hx (hint q'.la.gvs) q'.la.gvs, q'.la.np, q'.la.ng, q'.la.pn, q'.la.gn, q'.la.pin, q'.la.gin⟩, q'.ok, q'.nd, q'.dl⟩
    · rename_i hi
      have hi0 : i - Ls.length = 0 := by
        have := (List.getElem?_eq_some_iff.mp e).1
        simp at this
        omega
      rw [hi0] at e
      cases e
      exact ⟨g2, ⟨hx (hins hpg.at_) hpg.at_, hx hs hpg.st⟩, ⟨g0, g1, by show M.length ≠ c; omega, by show M.length + 1 ≠ c; omega, hpn, hgk, hp, hg⟩, ok, hnd, Nat.zero_le _⟩
  · have old : ∀ (i : Nat) L, Ls[i]? = some (some L) → L.a ≠ M.length + 2 := fun i L e => by
      have := (List.getElem?_eq_some_iff.mp (h.ln i L e).at_).1
      omega
    rw [List.getElem?_append] at e1 e2
    split at e1
    · split at e2
      · exact h.ne i j L1 L2 e1 e2 hij
      · rename_i hj
        have hj0 : j - Ls.length = 0 := by
          have := (List.getElem?_eq_some_iff.mp e2).1
          simp at this
          omega
        rw [hj0] at e2
        cases e2
        exact old i L1 e1
    · rename_i hi
      have hi0 : i - Ls.length = 0 := by
        have := (List.getElem?_eq_some_iff.mp e1).1
        simp at this
        omega
      rw [hi0] at e1
      cases e1
      split at e2
      · exact (old j L2 e2).symm
      · rename_i hj
        have := (List.getElem?_eq_some_iff.mp e2).1
        simp at this
        omega
theorem rng_goC {r : Ev} {M : Hd} {j : Nat} {v lo hi : Int} {cx : Str} {Q : Fl × Hd → Prop} {f : SF} (hr : r[j]? = some (some (.int v))) (h1 : lo ≤ v ∧ v ≤ hi) (h : Wp (f r M) Q) :
    Wp (sSeq (sIf (tOr (tNot (tTru (eCall m_is_integer (aCons (eVar j) aNil)))) (tNot (tVal (eChain leG leG (eC (.int lo)) (eVar j) (eC (.int hi)))))) (sRaise cx) sNil) f r M) Q := by
  rw [wp_seq]
  refine Wp.imp (Q := fun o => o = (Fl.nx r, M)) ?_ ?_
  · simp only [sIf, tOr, tNot, tTru, truD, eCall, aCons, aNil, eVar, hr, wp_exB, wp_bnd, wp_some, wp_ite]
    rw [is_integer_int]
    walk_at "di"
    rw [hr]
    walk_at "di"
    rw [if_pos h1.1]
    walk_at "di"
    rw [if_neg (by simp; omega)]
    first | done | trivial | rfl
  · rintro _ rfl
    rw [nxQ_nx]
    exact h
theorem vf2 {x y : D} : putFD "cells" y [("modulus", x)] = ([("modulus", x), ("cells", y)] : List (Str × D)) := pf2
theorem vf3 {x y z : D} : putFD "loans" z [("modulus", x), ("cells", y)] = ([("modulus", x), ("cells", y), ("loans", z)] : List (Str × D)) := by
  unfold putFD
  rw [if_neg (by decide +kernel)]
  unfold putFD
  rw [if_neg (by decide +kernel)]
  rfl
/-- a new vault -/
theorem vault_init {q i : Nat} (hm : 2 ≤ m ∧ m ≤ 1000000000) (hi : M[i]? = some (.ins "Vault" [])) (hq : M[q]? = some (O.lst (cs.map D.int))) (hl : 1 ≤ cs.length ∧ cs.length ≤ 200) (hc : ∀ x ∈ cs, 0 ≤ x ∧ x < m) :
    m_Vault___init__ [.ref i, .ref q, .int m] M = some (.ok .non (M.set i (vaultO m M.length (M.length + 1)) ++ [.lst (cs.map D.int), .lst []])) := by
  have hiM : i < M.length := (List.getElem?_eq_some_iff.mp hi).1
  refine wp_eq ?_
  refine wp_mir rfl ?_
  unfold g_Vault___init__
  have hst : startD N_Vault___init__.length [.ref i, .ref q, .int m] = [some (.ref i), some (.ref q), some (.int m)] := rfl
  rw [hst]
  refine rng_goC rfl hm ?_
  rw [wp_seq]
  refine wp_if2 (c := False) ?_ (fun q => q.elim) (fun _ => ?_)
  · walk_at "di"
    rw [isiG_ref hq]
    walk_at "di"
    rw [hq]
    walk_at "di"
    rw [List.length_map, if_pos (by omega)]
    walk_at "di"
    exact ⟨_, rfl, by simp; omega⟩
  refine wp_nil ?_
  have e1 : sDrop (eCall m_check_numbers (aCons (eVar 1) (aCons (eUn lenD (eVar 1)) (aCons (eVar 2) aNil)))) [some (.ref i), some (.ref q), some (.int m)] M = some (Fl.nx [some (.ref i), some (.ref q), some (.int m)], M) := wp_eq' (by
    walk_at "ds"
    rw [hq]
    walk_at "ds"
    rw [List.length_map, check_numbers_ok hq rfl hc]
    walk_at "ds")
  rw [wp_seq]
  refine wp_of_eq e1 ?_
  rw [nxQ_nx]
  have h1 := set_get (o2 := .ins "Vault" [("modulus", .int m)]) hi
  refine fld_go (d := .int m) rfl rfl hi (by decide) ?_
  rw [show putFD "modulus" (.int m) [] = ([("modulus", .int m)] : List (Str × D)) from rfl]
  have hne : i ≠ q := by
    rintro rfl
    rw [hq] at hi
    cases hi
  have hq2 : (M.set i (.ins "Vault" [("modulus", .int m)]))[q]? = some (O.lst (cs.map D.int)) := by
    rw [List.getElem?_set_ne hne]
    exact hq
  refine fld_go (i := i) (d := .ref M.length) (fs := [("modulus", .int m)]) (M1 := M.set i (.ins "Vault" [("modulus", .int m)]) ++ [O.lst (cs.map D.int)]) ?_ rfl (get_old h1) (by simp) ?_
  · simp only [eUn, eVar, List.getElem?_cons_zero, List.getElem?_cons_succ, bnd_ok]
    rw [listG_ref hq2, List.length_set]
  rw [vf2, get_setc (by rw [List.length_set]; exact hiM), List.set_set]
  have h3 := set_get (o2 := .ins "Vault" [("modulus", .int m), ("cells", .ref M.length)]) hi
  refine wp_of_eq (fld_eq (i := i) (d := .ref (M.length + 1)) (fs := [("modulus", .int m), ("cells", .ref M.length)]) (M1 := M.set i (.ins "Vault" [("modulus", .int m), ("cells", .ref M.length)]) ++ [O.lst (cs.map D.int)] ++ [O.lst []]) ?_ rfl (get_old (get_old h3)) (by simp)) ?_
  · simp only [eLst, aNil, bnd_ok, List.length_nil]
    rw [if_pos (by decide)]
    simp
  · rw [fnQ_nx, vf3, List.append_assoc, get_setc (by rw [List.length_set]; exact hiM), List.set_set]
    rfl
theorem vault_at {i : Nat} (hm : 2 ≤ m ∧ m ≤ 1000000000) (hi : i < M.length) (hl : 1 ≤ cs.length ∧ cs.length ≤ 200) (hc : ∀ x ∈ cs, 0 ≤ x ∧ x < m) : VAt (M.set i (vaultO m M.length (M.length + 1)) ++ [.lst (cs.map D.int), .lst []]) i M.length (M.length + 1) m cs [] := by
  have hlen : (M.set i (vaultO m M.length (M.length + 1))).length = M.length := List.length_set
  refine ⟨hm, get_old (by rw [List.getElem?_set_self hi]), ?_, ?_, hl, Nat.zero_le _, hc, (fun i L e => nomatch e), fun i j L L' e => nomatch e⟩
  · rw [List.getElem?_append_right (by omega), hlen, Nat.sub_self]
    rfl
  · rw [List.getElem?_append_right (by omega), hlen, Nat.add_sub_cancel_left]
    rfl
end
/-! ### a vault behind the draws; what is kept -/
structure Keep (c l : Nat) (M M1 : Hd) : Prop where
  le : M.length ≤ M1.length
  at_ : ∀ i o, M[i]? = some o → 2 ≤ i → i ≠ c → i ≠ l → (∀ fs, o ≠ .ins "Loan" fs) → M1[i]? = some o
theorem Keep.refl (c l : Nat) (M : Hd) : Keep c l M M := ⟨Nat.le_refl _, fun _ _ h _ _ _ _ => h⟩
theorem Keep.trans {c l : Nat} {M M1 M2 : Hd} (h : Keep c l M M1) (k : Keep c l M1 M2) : Keep c l M M2 :=
  ⟨Nat.le_trans h.le k.le, fun i o e h2 hc hl ho => k.at_ i o (h.at_ i o e h2 hc hl ho) h2 hc hl ho⟩
theorem Keep.dr {c l : Nat} {M M1 R X : Hd} (h : Dr M R) (h1 : Dr M1 (R ++ X)) : Keep c l M M1 :=
  ⟨by rw [h.len, h1.len, List.length_append]; omega, fun i o e h2 _ _ _ => h.keepX h1 h2 e⟩
structure Hold (c l : Nat) (M : Hd) (i : Nat) (o : O) : Prop where
  at_ : M[i]? = some o
  two : 2 ≤ i
  nc : i ≠ c
  nl : i ≠ l
  no : ∀ fs, o ≠ .ins "Loan" fs
theorem Hold.keep {c l : Nat} {M M1 : Hd} {i : Nat} {o : O} (h : Hold c l M i o) (k : Keep c l M M1) : Hold c l M1 i o := ⟨k.at_ i o h.at_ h.two h.nc h.nl h.no, h.two, h.nc, h.nl, h.no⟩
theorem lst_no {ds : List D} : ∀ fs, O.lst ds ≠ .ins "Loan" fs := fun fs e => nomatch e
theorem prog_no {m n k : Int} {s : Nat} : ∀ fs, progO m n k s ≠ .ins "Loan" fs := fun fs e => by
  unfold progO at e
  injection e with e1 e2
  exact absurd e1 (by decide +kernel)
/-- a program among what is kept -/
structure PrgH (c l : Nat) (M : Hd) (z s : Nat) (m n k : Int) (xs : List Sp_) : Prop where
  p : Hold c l M z (progO m n k s)
  s : Hold c l M s (.lst (xs.map spd))
theorem PrgH.at_ {c l : Nat} {M : Hd} {z s : Nat} {m n k : Int} {xs : List Sp_} (h : PrgH c l M z s m n k xs) : PrgAt M z s m n k xs := ⟨h.p.at_, h.s.at_⟩
theorem PrgH.keep {c l : Nat} {M M1 : Hd} {z s : Nat} {m n k : Int} {xs : List Sp_} (h : PrgH c l M z s m n k xs) (q : Keep c l M M1) : PrgH c l M1 z s m n k xs := ⟨h.p.keep q, h.s.keep q⟩
structure VD (M R : Hd) (v c l : Nat) (m : Int) (cs : List Int) (Ls : List (Option Ln)) : Prop where
  dr : Dr M R
  va : VAt M v c l m cs Ls
  c2 : 2 ≤ c
  l2 : 2 ≤ l
  t2 : ∀ (i : Nat) L, Ls[i]? = some (some L) → 2 ≤ L.s ∧ 2 ≤ L.plr ∧ 2 ≤ L.gvr
theorem Dr.ins2 {M R : Hd} (h : Dr M R) {i : Nat} {cn : Str} {fs : List (Str × D)} (e : M[i]? = some (.ins cn fs)) : 2 ≤ i := by
  obtain ⟨ds, a, rfl, _⟩ := h
  match i, e with
  | 0, e => cases e
  | 1, e => cases e
  | i + 2, _ => omega
theorem Dr.setI {M R : Hd} (h : Dr M R) {i : Nat} (hi : 2 ≤ i) (o : O) : Dr (M.set i o) (R.set (i - 2) o) := by
  obtain ⟨j, rfl⟩ : ∃ j, i = j + 2 := ⟨i - 2, by omega⟩
  exact h.set j o
section
variable {M R : Hd} {v c l : Nat} {m : Int} {cs : List Int} {Ls : List (Option Ln)}
theorem VD.cM (h : VD M R v c l m cs Ls) : c < M.length := (List.getElem?_eq_some_iff.mp h.va.cc).1
theorem VD.lM (h : VD M R v c l m cs Ls) : l < M.length := (List.getElem?_eq_some_iff.mp h.va.ll).1
theorem VD.ext {M1 X : Hd} (h : VD M R v c l m cs Ls) (h1 : Dr M1 (R ++ X)) : VD M1 (R ++ X) v c l m cs Ls := by
  have k : ∀ i, 2 ≤ i → i < M.length → M1[i]? = M[i]? := fun i h2 hl => by
    rw [h.dr.keepX h1 h2 (List.getElem?_eq_getElem hl), List.getElem?_eq_getElem hl]
  refine ⟨h1, h.va.frame fun i hi => ?_, h.c2, h.l2, h.t2⟩
  have lt : ∀ {i : Nat} {o : O}, M[i]? = some o → i < M.length := fun e => (List.getElem?_eq_some_iff.mp e).1
  rcases hi with rfl | rfl | rfl | ⟨j, L, e, hj⟩
  · exact k _ (h.dr.ins2 h.va.vv) (lt h.va.vv)
  · exact k _ h.c2 h.cM
  · exact k _ h.l2 h.lM
  · have q := h.va.ln j L e
    obtain ⟨t1, t2, t3⟩ := h.t2 j L e
    rcases hj with rfl | rfl | rfl | rfl | rfl
    · exact k _ (h.dr.ins2 q.at_) (lt q.at_)
    · exact k _ (h.dr.ins2 q.pg.at_) (lt q.pg.at_)
    · exact k _ t1 (lt q.pg.st)
    · exact k _ t2 (lt q.la.pls)
    · exact k _ t3 (lt q.la.gvs)
theorem VD.app (h : VD M R v c l m cs Ls) (X : Hd) : VD (M ++ X) (R ++ X) v c l m cs Ls := h.ext (h.dr.app X)
theorem Hold.new {M0 : Hd} {i : Nat} {o : O} (h : VD M0 R v c l m cs Ls) (e : M[i]? = some o) (hi : M0.length ≤ i) (ho : ∀ fs, o ≠ .ins "Loan" fs) : Hold c l M i o := by
  have := h.cM
  have := h.lM
  have := h.dr.len
  exact ⟨e, by omega, by omega, by omega, ho⟩
theorem VD.cl (h : VD M R v c l m cs Ls) : c ≠ l := by
  rintro rfl
  exact lst_lnD (Option.some.inj (h.va.cc.symm.trans h.va.ll)) (.inr (by have := h.va.cl; omega))
theorem VD.advance (h : VD M R v c l m cs Ls) {t : Nat} {L : Ln} (hL : Ls[t]? = some (some L)) (hb : blk Ls t L = false) {most : Int} (hmo : 0 ≤ most) :
    Wp (m_Vault_advance [.ref v, .int t, .int most] M) (okQ fun d M1 => d = .int ((L.xs.drop L.dn).take most.toNat).length ∧ ∃ R1, VD M1 R1 v c l m (opsS m L.gs L.pl cs ((L.xs.drop L.dn).take most.toNat)) (Ls.set t (some { L with dn := L.dn + ((L.xs.drop L.dn).take most.toNat).length })) ∧ Keep c l M M1) := by
  have q := h.va.ln t L hL
  refine (advance_ok h.va hL hb hmo).ok ?_
  rintro d M1 ⟨rfl, Z, rfl⟩
  generalize hys : (L.xs.drop L.dn).take most.toNat = ys
  have hdl : L.dn + ys.length ≤ L.xs.length := by
    have := q.dl
    rw [← hys, List.length_take, List.length_drop]
    omega
  have hin := opsS_in (xs := ys) (gs := L.gs) (pl := L.pl) (by have := h.va.hm; omega) h.va.ci
  have h1 := h.va.setc opsS_len hin
  have h2 := (h1.setd hL hdl).app (X := Z)
  refine ⟨rfl, _, ⟨((h.dr.setI h.c2 _).setI (h.dr.ins2 q.at_) _).app Z, h2, h.c2, h.l2, fun i L' e => ?_⟩, ?_⟩
  · rcases set_at e with ⟨rfl, e5⟩ | ⟨_, e5⟩
    · cases e5
      exact h.t2 t L hL
    · exact h.t2 i L' e5
  · refine ⟨by simp, fun i o e h2 hc hl ho => ?_⟩
    have hia : i ≠ L.a := by
      rintro rfl
      rw [q.at_] at e
      cases e
      exact ho _ rfl
    refine get_old ?_
    rw [List.getElem?_set_ne (Ne.symm hia), List.getElem?_set_ne (Ne.symm hc)]
    exact e
theorem VD.recall (h : VD M R v c l m cs Ls) {t : Nat} {L : Ln} (hL : Ls[t]? = some (some L)) (hb : blk Ls t L = false) :
    Wp (m_Vault_recall [.ref v, .int t] M) (okQ fun d M1 => d = .int L.dn ∧ ∃ R1, VD M1 R1 v c l m (opsS m L.gs L.pl cs (backS m (L.xs.take L.dn))) (Ls.set t none) ∧ Keep c l M M1) := by
  refine (recall_ok h.va hL hb).ok ?_
  rintro d M1 ⟨rfl, Z, rfl⟩
  have hin := opsS_in (xs := backS m (L.xs.take L.dn)) (gs := L.gs) (pl := L.pl) (by have := h.va.hm; omega) h.va.ci
  have h1 := h.va.setc opsS_len hin
  have h2 := (h1.setn (List.getElem?_eq_some_iff.mp hL).1).app (X := Z)
  refine ⟨rfl, _, ⟨((h.dr.setI h.c2 _).setI h.l2 _).app Z, h2, h.c2, h.l2, fun i L' e => ?_⟩, ?_⟩
  · rcases set_at e with ⟨rfl, e5⟩ | ⟨_, e5⟩
    · cases e5
    · exact h.t2 i L' e5
  · refine ⟨by simp, fun i o e h2 hc hl ho => get_old ?_⟩
    rw [List.getElem?_set_ne (Ne.symm hl), List.getElem?_set_ne (Ne.symm hc)]
    exact e
/-- the loan that lend makes -/
def newLn (M : Hd) (n k : Int) (xs : List Sp_) (pl gs cs : List Int) (z s : Nat) : Ln := { n := n, k := k, xs := xs, pl := pl, gs := gs, b := cg cs (cg pl 0), dn := 0, a := M.length + 2, p := z, s := s, plr := M.length, gvr := M.length + 1 }
theorem VD.lend (h : VD M R v c l m cs Ls) {n k : Int} {xs : List Sp_} {pl gs : List Int} {z s q u : Nat} (hpg : PrgH c l M z s m n k xs) (hq : M[q]? = some (O.lst (pl.map D.int))) (hu : M[u]? = some (O.lst (gs.map D.int))) (ok : PgOk m n k xs 20000) (hpn : (pl.length : Int) = n) (hp : ∀ p ∈ pl, 0 ≤ p ∧ p < cs.length) (hnd : pl.Nodup) (hgk : (gs.length : Int) = k) (hg : ∀ x ∈ gs, 0 ≤ x ∧ x < m) (hlL : Ls.length < 1000) :
    Wp (m_Vault_lend [.ref v, .ref z, .ref q, .ref u] M) (okQ fun d M1 => d = .int Ls.length ∧ ∃ R1, VD M1 R1 v c l m cs (Ls ++ [some (newLn M n k xs pl gs cs z s)]) ∧ Keep c l M M1) := by
  refine (lend_ok h.va hpg.at_ hq hu hpn ok.hn hp hnd hgk hg hlL).ok ?_
  rintro d M1 ⟨rfl, rfl⟩
  have h2 := h.va.add (b := cg cs (cg pl 0)) hpg.at_ hpg.s.nl ok hpn hp hnd hgk hg hlL
  have hl2 := h.dr.len
  refine ⟨rfl, _, ⟨(h.dr.setI h.l2 _).app _, h2, h.c2, h.l2, fun i L' e => ?_⟩, ?_⟩
  · rw [List.getElem?_append] at e
    split at e
    · exact h.t2 i L' e
    · rename_i hi
      have hi0 : i - Ls.length = 0 := by
        have := (List.getElem?_eq_some_iff.mp e).1
        simp at this
        omega
      rw [hi0] at e
      cases e
      exact ⟨hpg.s.two, by show 2 ≤ M.length; omega, by show 2 ≤ M.length + 1; omega⟩
  · refine ⟨by simp, fun i o e h2 hc hl ho => get_old ?_⟩
    rw [List.getElem?_set_ne (Ne.symm hl)]
    exact e
theorem VD.kext {M1 X : Hd} (h : VD M R v c l m cs Ls) (h1 : Dr M1 (R ++ X)) : Keep c l M M1 := Keep.dr h.dr h1
theorem VD.kapp (h : VD M R v c l m cs Ls) (X : Hd) : Keep c l M (M ++ X) := Keep.dr h.dr (h.dr.app X)
end
/-! ### drawn loans -/
theorem wp_numsN {n m : Int} (hn : 0 ≤ n ∧ n ≤ 1000) (hm : 2 ≤ m) {v di mi : Nat} {own : List Nat} {r : Ev} {M0 M R : Hd} {it : IF} (e : it r M0 = some (.ok (intsD 0 n.toNat, []) M)) (h : Dr M R) (h1 : (wip r own)[di]? = some (some (.ref 1))) (h2 : (wip r own)[mi]? = some (some (.int m))) (hv : v ≠ di ∧ v ≠ mi) :
    Wp (eLc it (.nm v) tYes (eCall m__law_number (aCons (eVar di) (aCons (eVar mi) aNil))) own r M0) (okQ fun d M1 => ∃ (gs : List Int) (X : Hd), d = .ref (R.length + 2) ∧ (gs.length : Int) = n ∧ (∀ v ∈ gs, 0 ≤ v ∧ v < m) ∧ Dr M1 (R ++ .lst (gs.map D.int) :: X)) := by
  refine (wp_makes2 (n := n) (M := M) (R := R) (Q := fun d => ∃ i, d = .int i ∧ (0 ≤ i ∧ i < m)) (by omega) ?_ e h).ok ?_
  · intro j M R h0 h1' hD
    unfold eCall
    simp only [aCons, aNil, eVar]
    rw [List.getElem?_set_ne hv.1, h1]
    simp only [bnd_ok]
    rw [List.getElem?_set_ne hv.2, h2]
    simp only [bnd_ok]
    refine (number6_ok hD hm).ok ?_
    rintro _ M1 ⟨x, rfl, x0, hD⟩
    exact ⟨⟨x, rfl, x0⟩, [], by rw [List.append_nil]; exact hD⟩
  · rintro _ M1 ⟨rfl, ds, Y, hdl, hds, hD⟩
    obtain ⟨gs, rfl, hgs⟩ := lst_ints hds
    rw [List.length_map] at hdl
    exact ⟨gs, Y, rfl, by omega, hgs, hD⟩
theorem ints_map {n : Nat} : intsD 0 n = ((List.range n).map fun (i : Nat) => (i : Int)).map D.int := by
  unfold intsD
  rw [List.map_map]
  congr 1
  funext i
  simp
theorem places_ok {M R : Hd} {N n : Int} (h : Dr M R) (hn : 1 ≤ n ∧ n ≤ N) (hN : N ≤ 200) :
    Wp (m__law_places [.ref 1, .int N, .int n] M) (okQ fun d M1 => ∃ (pl : List Int) (q : Nat) (X : Hd), d = .ref q ∧ M.length ≤ q ∧ M1[q]? = some (.lst (pl.map D.int)) ∧ (pl.length : Int) = n ∧ (∀ p ∈ pl, 0 ≤ p ∧ p < N) ∧ pl.Nodup ∧ Dr M1 (R ++ X)) := by
  refine wp_mir rfl ?_
  unfold g__law_places
  walk_at "ds"
  refine (wp_comp (M := M) (ds := intsD 0 N.toNat) (gs := []) (keep := fun _ => true) (val := id) ?_ (fun X => by simp) (by rw [ints_length]; omega) ?_).ok ?_
  · simp only [rng1, eVar, List.getElem?_cons_zero, List.getElem?_cons_succ, bnd_ok]
    exact if_sm (by omega)
  · intro d hd X
    refine ⟨_, rfl, ?_⟩
    walk_at "ds"
    refine ⟨[], by simp, fun _ => ?_⟩
    walk_at "ds"
    exact ⟨rfl, [], by simp⟩
  rintro _ M1 ⟨rfl, Z, rfl⟩
  have hf : List.map id (List.filter (fun _ => true) (intsD 0 N.toNat)) = intsD 0 N.toNat := by simp
  rw [hf, ints_map]
  generalize hall : ((List.range N.toNat).map fun (i : Nat) => (i : Int)) = all
  have halln : all.Nodup := by
    rw [← hall]
    exact List.Pairwise.map _ (fun a b hab => by omega) List.nodup_range
  have hallr : ∀ p ∈ all, 0 ≤ p ∧ p < N := by
    rw [← hall]
    intro p hp
    obtain ⟨i, hi, rfl⟩ := List.mem_map.mp hp
    have := List.mem_range.mp hi
    omega
  have halll : all.length = N.toNat := by rw [← hall, List.length_map, List.length_range]
  have hD := h.app (O.lst (all.map D.int) :: Z)
  have hln := h.len
  walk_at "ds"
  refine wp_eLc ?_
  have e : rng1 (eVar 2) [some (.ref 1), some (.int N), some (.int n), some (.ref M.length), none] (M ++ O.lst (all.map D.int) :: Z) = some (.ok (intsD 0 n.toNat, []) (M ++ O.lst (all.map D.int) :: Z)) := by
    simp only [rng1, eVar, List.getElem?_cons_zero, List.getElem?_cons_succ, bnd_ok]
    exact if_sm (by omega)
  rw [e, wp_some]
  dsimp only
  refine wp_lcL (fun i M2 => ∃ left acc : List Int, Dr M2 (R ++ O.lst (left.map D.int) :: Z ++ [O.lst (acc.map D.int)]) ∧ acc.length = i ∧ (acc ++ left).Perm all) ?_ ?_ ?_
  · rintro i d M2 hd ⟨left, acc, hD2, hl, hp⟩
    obtain ⟨hi, rfl⟩ := ints_get hd
    have hlen := hp.length_eq
    rw [List.length_append] at hlen
    refine ⟨by simp, _, rfl, ?_⟩
    unfold tYes
    rw [wp_some]
    refine ⟨(fun h => nomatch h), fun _ => ?_⟩
    have gl : M2[M.length]? = some (O.lst (left.map D.int)) := by
      rw [hln, hD2.get]
      exact get_app_l get_mid
    walk_at "ds"
    rw [gl]
    walk_at "ds"
    refine (draw_ok hD2).ok ?_
    rintro _ M3 ⟨a, rfl, _, _, hD3⟩
    have gl3 : M3[M.length]? = some (O.lst (left.map D.int)) := by
      rw [hln, hD3.get]
      exact get_app_l get_mid
    walk_at "ds"
    rw [gl3]
    walk_at "ds"
    rw [List.length_map, modG_ok (by omega)]
    walk_at "ds"
    have ha := mod_in a (show (0 : Int) < left.length by omega)
    generalize a % (left.length : Int) = j at ha ⊢
    rw [gl3]
    have hjl : j.toNat < left.length := by omega
    unfold popAtG
    dsimp only
    rw [if_pos (by omega), List.getElem?_map, List.getElem?_eq_getElem hjl]
    walk_at "ds"
    have e1 : (R ++ O.lst (left.map D.int) :: Z ++ [O.lst (acc.map D.int)]).set R.length (O.lst ((left.eraseIdx j.toNat).map D.int)) = R ++ O.lst ((left.eraseIdx j.toNat).map D.int) :: Z ++ [O.lst (acc.map D.int)] := by
      rw [List.append_assoc, List.cons_append, set_mid, List.append_assoc, List.cons_append]
    have hD4 := hD3.set R.length (O.lst ((left.eraseIdx j.toNat).map D.int))
    rw [e1] at hD4
    have hel : (left.map D.int).eraseIdx j.toNat = (left.eraseIdx j.toNat).map D.int := by
      rw [List.eraseIdx_eq_take_drop_succ, List.eraseIdx_eq_take_drop_succ, List.map_append, List.map_take, List.map_drop]
    rw [hel, hln]
    have hml : (M ++ O.lst (all.map D.int) :: Z).length = (R ++ O.lst ((left.eraseIdx j.toNat).map D.int) :: Z).length + 2 := by
      rw [List.length_append, List.length_append, hln]
      simp
      omega
    rw [Option.map_some]
    dsimp only
    rw [wp_some]
    dsimp only
    refine ⟨acc.map D.int, ?_, by rw [List.length_map]; omega, left.eraseIdx j.toNat, acc ++ [left[j.toNat]], ?_, by simp [hl], ?_⟩
    · rw [hml, hD4.get, get_here]
    · have := hD4.set (R ++ O.lst ((left.eraseIdx j.toNat).map D.int) :: Z).length (O.lst (acc.map D.int ++ [D.int left[j.toNat]]))
      rw [set_here] at this
      rw [hml, List.map_append]
      exact this
    · refine List.Perm.trans ?_ hp
      rw [List.append_assoc]
      refine List.Perm.append_left acc ?_
      have e2 : left = left.take j.toNat ++ left[j.toNat] :: left.drop (j.toNat + 1) := by
        rw [← List.drop_eq_getElem_cons hjl, List.take_append_drop]
      rw [List.eraseIdx_eq_take_drop_succ]
      have e3 : (left[j.toNat] :: (left.take j.toNat ++ left.drop (j.toNat + 1))).Perm (left.take j.toNat ++ left[j.toNat] :: left.drop (j.toNat + 1)) := List.perm_middle.symm
      rw [← e2] at e3
      exact e3
  · rintro M2 ⟨left, acc, hD2, hl, hp⟩
    rw [ints_length] at hl
    refine ⟨by simp, ?_⟩
    have hnd : (acc ++ left).Nodup := hp.nodup_iff.mpr halln
    have hml : (M ++ O.lst (all.map D.int) :: Z).length = (R ++ O.lst (left.map D.int) :: Z).length + 2 := by
      rw [List.length_append, List.length_append, hln]
      simp
      omega
    walk_at "ds"
    refine ⟨acc, _, O.lst (left.map D.int) :: Z ++ [O.lst (acc.map D.int)], rfl, by simp, ?_, by omega, fun p hp2 => hallr p (hp.mem_iff.mp (List.mem_append_left _ hp2)), (List.nodup_append.mp hnd).1, by rw [← List.append_assoc]; exact hD2⟩
    rw [hml, hD2.get, get_here]
  · refine ⟨all, [], ?_, rfl, by simp⟩
    have := hD.app [O.lst []]
    exact this
theorem sizeN_ok {M R : Hd} (h : Dr M R) : Wp (m__law_size [.ref 1] M) (okQ fun d M1 => ∃ (N : Int) (X : Hd), d = .int N ∧ (1 ≤ N ∧ N ≤ 200) ∧ Dr M1 (R ++ X)) := by
  refine wp_mir rfl ?_
  unfold g__law_size
  walk_at "ds"
  have hln := h.len
  generalize hL : [D.int 1, D.int 2, D.int 3, D.int 4, D.int 5, D.int 6, D.int 7, D.int 8, D.int 9, D.int 10, D.int 60, D.int 199, D.int 200] = L
  have hLl : L.length = 13 := by rw [← hL]; rfl
  have hLm : ∀ d ∈ L, ∃ N : Int, d = .int N ∧ (1 ≤ N ∧ N ≤ 200) := fun d hd => by
    rw [← hL] at hd
    simp only [List.mem_cons, List.not_mem_nil, or_false] at hd
    rcases hd with rfl | rfl | rfl | rfl | rfl | rfl | rfl | rfl | rfl | rfl | rfl | rfl | rfl <;> exact ⟨_, rfl, by decide⟩
  have hD := h.app [O.lst L]
  refine (draw_ok hD).ok ?_
  rintro _ M2 ⟨a, rfl, _, _, hD⟩
  walk_at "ds"
  rw [hln, hD.get, get_here]
  obtain ⟨d, hd, he⟩ := atI_any (l := L) (j := a % 13) (by omega)
  obtain ⟨N, rfl, hN⟩ := hLm d hd
  dsimp only
  rw [he]
  walk_at "ds"
  exact ⟨N, _, rfl, hN, hD⟩
/-- a drawn loan: numbers of cells and inputs, steps, places, inputs -/
structure LoanD (M : Hd) (lo j : Nat) (m N n k : Int) (xs : List Sp_) (pl gs : List Int) (s p g : Nat) : Prop where
  j_ : M[j]? = some (.lst [.int n, .int k, .ref s, .ref p, .ref g])
  s_ : M[s]? = some (.lst (xs.map spd))
  p_ : M[p]? = some (.lst (pl.map D.int))
  g_ : M[g]? = some (.lst (gs.map D.int))
  jl : lo ≤ j
  sl : lo ≤ s
  pl_ : lo ≤ p
  gl : lo ≤ g
  hn : 1 ≤ n ∧ n ≤ 5 ∧ n ≤ N
  hk : 0 ≤ k ∧ k ≤ 2
  xl : xs.length ≤ 7
  xo : ∀ x ∈ xs, SpOk m n k x
  pn : (pl.length : Int) = n
  pin : ∀ q ∈ pl, 0 ≤ q ∧ q < N
  nd : pl.Nodup
  gn : (gs.length : Int) = k
  gin : ∀ v ∈ gs, 0 ≤ v ∧ v < m
theorem loan_ok {M R : Hd} {m N : Int} (h : Dr M R) (hm : 2 ≤ m ∧ m ≤ 1000000000) (hN : 1 ≤ N ∧ N ≤ 200) :
    Wp (m__law_loan [.ref 1, .int m, .int N] M) (okQ fun d M1 => ∃ (j : Nat) (n k : Int) (xs : List Sp_) (pl gs : List Int) (s p g : Nat) (X : Hd), d = .ref j ∧ LoanD M1 M.length j m N n k xs pl gs s p g ∧ Dr M1 (R ++ X)) := by
  refine wp_mir rfl ?_
  unfold g__law_loan
  walk_at "ds"
  have hln := h.len
  refine (draw_ok h).ok ?_
  rintro _ M1 ⟨a, rfl, _, _, hD⟩
  walk_at "ds"
  generalize hmx : (if N < 5 then N else 5) = mx
  have hmx2 : 1 ≤ mx ∧ mx ≤ 5 ∧ mx ≤ N := by subst hmx; split <;> omega
  rw [modG_ok (by omega)]
  walk_at "ds"
  have ha := mod_in a (show 0 < mx by omega)
  generalize hn : 1 + a % mx = n
  have hn2 : 1 ≤ n ∧ n ≤ 5 ∧ n ≤ N := by omega
  refine (draw_ok hD).ok ?_
  rintro _ M2 ⟨b, rfl, _, _, hD⟩
  walk_at "ds"
  generalize hk : b % 3 = k
  have hk2 : 0 ≤ k ∧ k ≤ 2 := by omega
  obtain ⟨c, M3, e3, _, _, hD⟩ := draw_eq hD
  have hl3 := hD.len
  have hz2 : 0 ≤ c % 8 ∧ c % 8 ≤ 7 := by omega
  refine (wp_makes2 (n := c % 8) (M := M3) (R := R) (Q := fun d => ∃ x, d = spd x ∧ SpOk m n k x) (by omega) ?_ (by
    unfold rng1
    simp only [eOp, eCall, aCons, aNil, eVar, eC, List.getElem?_cons_zero, bnd_ok, e3, modG_ok (show (0 : Int) < 8 by decide)]
    exact if_sm (by omega)) hD).ok ?_
  · intro j M R h0 h1 hD
    walk_at "ds"
    refine (step60_ok hD hm (by omega) (by omega)).ok ?_
    rintro _ M1 ⟨x, X, rfl, hx, hD⟩
    exact ⟨⟨x, rfl, hx⟩, X, hD⟩
  rintro _ M4 ⟨rfl, ds, Y, hdl, hds, hD⟩
  obtain ⟨xs, rfl, hxs⟩ := sp_list hds
  rw [List.length_map] at hdl
  walk_at "ds"
  have gs4 : (R ++ O.lst (xs.map spd) :: Y)[R.length]? = some (O.lst (xs.map spd)) := get_mid
  generalize hR4 : R ++ O.lst (xs.map spd) :: Y = R4 at hD gs4
  refine (wp_numsN (n := k) (di := 0) (mi := 1) (M := M4) (by omega) hm.1 ?_ hD rfl rfl (by decide)).ok ?_
  · simp only [rng1, eVar, List.getElem?_cons_zero, List.getElem?_cons_succ, bnd_ok]
    exact if_sm (by omega)
  rintro _ M5 ⟨gs, X5, rfl, hgl, hgs, hD⟩
  walk_at "ds"
  have gg5 : (R4 ++ O.lst (gs.map D.int) :: X5)[R4.length]? = some (O.lst (gs.map D.int)) := get_mid
  have gs5 := get_app_l (X := O.lst (gs.map D.int) :: X5) gs4
  have hl5 := hD.len
  refine (places_ok hD (n := n) (by omega) hN.2).ok ?_
  rintro _ M6 ⟨pl, q, X6, rfl, hq, hpq, hpn, hpr, hpnd, hD6⟩
  walk_at "ds"
  have hl6 := hD6.len
  have hD7 := hD6.app [O.lst [.int n, .int k, .ref (R.length + 2), .ref q, .ref (R4.length + 2)]]
  have hR4l : R.length ≤ R4.length := by rw [← hR4, List.length_append]; omega
  have hX : ∃ X, R4 ++ O.lst (gs.map D.int) :: X5 ++ X6 ++ [O.lst [.int n, .int k, .ref (R.length + 2), .ref q, .ref (R4.length + 2)]] = R ++ X := by
    refine ⟨_, by
      rw [← hR4]
      simp only [List.append_assoc]
      rfl⟩
  obtain ⟨X, hX⟩ := hX
  refine ⟨M6.length, n, k, xs, pl, gs, R.length + 2, q, R4.length + 2, X, rfl, ⟨get_here, ?_, ?_, ?_, ?_, by omega, ?_, by omega, hn2, hk2, by omega, hxs, hpn, hpr, hpnd, hgl, hgs⟩, by rw [← hX]; exact hD7⟩
  · refine get_old ?_
    rw [hD6.get]
    exact get_app_l gs5
  · exact get_old hpq
  · refine get_old ?_
    rw [hD6.get]
    exact get_app_l gg5
  · rw [hl6, List.length_append, List.length_append]
    omega
  · rw [hl5, List.length_append] at hq
    omega
/-! ### cells at places, plainly -/
theorem putC_cons {cs pl vs : List Int} {p v : Int} : putC cs (p :: pl) (v :: vs) = putC (cs.set p.toNat v) pl vs := rfl
theorem putC_nil {cs pl : List Int} : putC cs pl [] = cs := by unfold putC; rw [List.zip_nil_right]; rfl
theorem putC_nil' {cs vs : List Int} : putC cs [] vs = cs := rfl
theorem put_off {i : Nat} : ∀ {pl vs cs : List Int}, (∀ p ∈ pl, p.toNat ≠ i) → (putC cs pl vs)[i]? = cs[i]?
  | [], _, _, _ => rfl
  | _ :: _, [], _, _ => rfl
  | p :: pl, v :: vs, cs, h => by
    rw [putC_cons, put_off fun q hq => h q (List.mem_cons_of_mem _ hq), List.getElem?_set_ne (h p List.mem_cons_self)]
theorem put_at {j : Nat} {p v : Int} : ∀ {pl vs cs : List Int} {j : Nat}, pl.Nodup → (∀ p ∈ pl, 0 ≤ p) → pl[j]? = some p → vs[j]? = some v → p.toNat < cs.length → (putC cs pl vs)[p.toNat]? = some v := by
  intro pl
  induction pl with
  | nil => intro vs cs j _ _ h; cases h
  | cons q pl ih =>
    intro vs cs j hn h0 hp hv hl
    cases vs with
    | nil => cases hv
    | cons w vs =>
      rw [putC_cons]
      obtain ⟨hq, hn⟩ := List.nodup_cons.mp hn
      cases j with
      | zero =>
        cases hp
        cases hv
        rw [put_off, List.getElem?_set_self hl]
        intro r hr e
        have h1 := h0 r (List.mem_cons_of_mem _ hr)
        have h2 := h0 p List.mem_cons_self
        have : r = p := by omega
        subst this
        exact hq hr
      | succ j => exact ih hn (fun r hr => h0 r (List.mem_cons_of_mem _ hr)) hp hv (by rw [List.length_set]; exact hl)
theorem cgv_of {cs : List Int} {p v : Int} (h : cs[p.toNat]? = some v) : cg cs p = v := by
  unfold cg
  rw [List.getD_eq_getElem?_getD, h]
  rfl
theorem cgv_at {cs : List Int} {p : Int} (h : 0 ≤ p ∧ p < cs.length) : cs[p.toNat]? = some (cg cs p) := by
  have hl : p.toNat < cs.length := by omega
  rw [cgv_of (List.getElem?_eq_getElem hl), List.getElem?_eq_getElem hl]
def Pls (N : Nat) (pl : List Int) : Prop := pl.Nodup ∧ ∀ p ∈ pl, 0 ≤ p ∧ p < N
theorem sub_len {cs pl : List Int} : (subC cs pl).length = pl.length := List.length_map _
theorem sub_get {cs pl : List Int} {j : Nat} {p : Int} (h : pl[j]? = some p) : (subC cs pl)[j]? = some (cg cs p) := by
  unfold subC
  rw [List.getElem?_map, h]
  rfl
theorem sub_put {cs pl vs : List Int} (h : Pls cs.length pl) (hl : vs.length = pl.length) : subC (putC cs pl vs) pl = vs := by
  apply List.ext_getElem?
  intro j
  rcases Nat.lt_or_ge j pl.length with hj | hj
  · obtain ⟨p, hp⟩ : ∃ p, pl[j]? = some p := ⟨_, List.getElem?_eq_getElem hj⟩
    obtain ⟨v, hv⟩ : ∃ v, vs[j]? = some v := ⟨_, List.getElem?_eq_getElem (by omega)⟩
    have hr := h.2 p (List.mem_of_getElem? hp)
    rw [sub_get hp, hv, cgv_of (put_at (j := j) h.1 (fun q hq => (h.2 q hq).1) hp hv (by omega))]
  · rw [List.getElem?_eq_none (by rw [sub_len]; exact hj), List.getElem?_eq_none (by omega)]
theorem in_pls {pl : List Int} {N i : Nat} (h : Pls N pl) : (∀ p ∈ pl, p.toNat ≠ i) ∨ ∃ (j : Nat) (p : Int), pl[j]? = some p ∧ p.toNat = i := by
  by_cases hi : ∃ p ∈ pl, p.toNat = i
  · obtain ⟨p, hp, e⟩ := hi
    obtain ⟨j, hj⟩ := List.getElem?_of_mem hp
    exact .inr ⟨j, p, hj, e⟩
  · exact .inl fun p hp e => hi ⟨p, hp, e⟩
theorem put_put {cs pl vs ws : List Int} (h : Pls cs.length pl) (hv : vs.length = pl.length) (hw : ws.length = pl.length) : putC (putC cs pl vs) pl ws = putC cs pl ws := by
  apply List.ext_getElem?
  intro i
  rcases in_pls (i := i) h with hi | ⟨j, p, hp, rfl⟩
  · rw [put_off hi, put_off hi, put_off hi]
  · have hr := h.2 p (List.mem_of_getElem? hp)
    have hj := (List.getElem?_eq_some_iff.mp hp).1
    obtain ⟨w, hw⟩ : ∃ w, ws[j]? = some w := ⟨_, List.getElem?_eq_getElem (by omega)⟩
    rw [put_at (j := j) h.1 (fun q hq => (h.2 q hq).1) hp hw (by rw [putC_len]; omega), put_at (j := j) h.1 (fun q hq => (h.2 q hq).1) hp hw (by omega)]
theorem put_sub {cs pl : List Int} (h : Pls cs.length pl) : putC cs pl (subC cs pl) = cs := by
  apply List.ext_getElem?
  intro i
  rcases in_pls (i := i) h with hi | ⟨j, p, hp, rfl⟩
  · rw [put_off hi]
  · have hr := h.2 p (List.mem_of_getElem? hp)
    rw [put_at (j := j) h.1 (fun q hq => (h.2 q hq).1) hp (sub_get hp) (by omega), cgv_at hr]
def Apart (pl pl' : List Int) : Prop := ∀ p ∈ pl, ∀ q ∈ pl', p ≠ q
theorem sub_off {cs pl pl' vs : List Int} (h : Pls cs.length pl) (h' : Pls cs.length pl') (ha : Apart pl pl') : subC (putC cs pl' vs) pl = subC cs pl := by
  unfold subC
  refine List.map_congr_left fun p hp => ?_
  have hr := h.2 p hp
  have e : (putC cs pl' vs)[p.toNat]? = cs[p.toNat]? := put_off fun q hq e => ha p hp q hq (by have := (h'.2 q hq).1; omega)
  exact cgv_of (e.trans (cgv_at hr))
theorem put_comm {cs pl pl' vs ws : List Int} (h : Pls cs.length pl) (h' : Pls cs.length pl') (ha : Apart pl pl') (hv : vs.length = pl.length) (hw : ws.length = pl'.length) : putC (putC cs pl vs) pl' ws = putC (putC cs pl' ws) pl vs := by
  apply List.ext_getElem?
  intro i
  rcases in_pls (i := i) h with hi | ⟨j, p, hp, rfl⟩
  · rw [put_off (pl := pl) (cs := putC cs pl' ws) hi]
    rcases in_pls (i := i) h' with hi' | ⟨j', p', hp', rfl⟩
    · rw [put_off hi', put_off hi', put_off hi]
    · have hr := h'.2 p' (List.mem_of_getElem? hp')
      have hj := (List.getElem?_eq_some_iff.mp hp').1
      obtain ⟨w, hw⟩ : ∃ w, ws[j']? = some w := ⟨_, List.getElem?_eq_getElem (by omega)⟩
      rw [put_at (j := j') h'.1 (fun q hq => (h'.2 q hq).1) hp' hw (by rw [putC_len]; omega), put_at (j := j') h'.1 (fun q hq => (h'.2 q hq).1) hp' hw (by omega)]
  · have hr := h.2 p (List.mem_of_getElem? hp)
    have hj := (List.getElem?_eq_some_iff.mp hp).1
    obtain ⟨v, hv⟩ : ∃ v, vs[j]? = some v := ⟨_, List.getElem?_eq_getElem (by omega)⟩
    rw [put_at (j := j) h.1 (fun q hq => (h.2 q hq).1) hp hv (by rw [putC_len]; omega), put_off fun q hq e => ha p (List.mem_of_getElem? hp) q hq (by have := (h'.2 q hq).1; omega), put_at (j := j) h.1 (fun q hq => (h.2 q hq).1) hp hv (by omega)]
theorem ran_len {m : Int} {gs : List Int} : ∀ (xs : List Sp_) (mem : List Int), (ran m gs mem xs).length = mem.length
  | [], _ => rfl
  | x :: xs, mem => by
    show (ran m gs (doS m gs mem x) xs).length = _
    rw [ran_len xs, doS_len]
/-- steps on places: the cells there, run -/
theorem opsS_ran {m : Int} {gs pl : List Int} : ∀ (xs : List Sp_) (cs : List Int), Pls cs.length pl → opsS m gs pl cs xs = putC cs pl (ran m gs (subC cs pl) xs)
  | [], cs, h => (put_sub h).symm
  | x :: xs, cs, h => by
    have hl : (opS m gs pl cs x).length = cs.length := opS_len
    have hd : (doS m gs (subC cs pl) x).length = pl.length := by rw [doS_len, sub_len]
    show opsS m gs pl (opS m gs pl cs x) xs = putC cs pl (ran m gs (doS m gs (subC cs pl) x) xs)
    rw [opsS_ran xs _ (by rw [hl]; exact h)]
    unfold opS
    rw [sub_put h hd, put_put h hd (by rw [ran_len, hd])]
theorem opsS_app {m : Int} {gs pl cs : List Int} {xs ys : List Sp_} : opsS m gs pl cs (xs ++ ys) = opsS m gs pl (opsS m gs pl cs xs) ys := by
  unfold opsS
  rw [List.foldl_append]
theorem opsS_back {m n k : Int} {gs pl cs : List Int} (hm : 2 ≤ m ∧ m ≤ 1000000000) {xs : List Sp_} (hx : ∀ x ∈ xs, SpOk m n k x) (hn : (pl.length : Int) = n) (h : Pls cs.length pl) (hc : ∀ v ∈ cs, 0 ≤ v ∧ v < m) : opsS m gs pl (opsS m gs pl cs xs) (backS m xs) = cs := by
  have hl : (opsS m gs pl cs xs).length = cs.length := opsS_len
  have hr : (ran m gs (subC cs pl) xs).length = pl.length := by rw [ran_len, sub_len]
  rw [opsS_ran _ _ (by rw [hl]; exact h), opsS_ran xs cs h, sub_put h hr, ran_back hm xs _ hx (by rw [sub_len]; exact hn) (subC_in (by omega) hc), put_put h hr sub_len, put_sub h]
theorem opsS_comm {m : Int} {gs gs' pl pl' cs : List Int} {xs ys : List Sp_} (h : Pls cs.length pl) (h' : Pls cs.length pl') (ha : Apart pl pl') : opsS m gs pl (opsS m gs' pl' cs ys) xs = opsS m gs' pl' (opsS m gs pl cs xs) ys := by
  have hl : (opsS m gs pl cs xs).length = cs.length := opsS_len
  have hl' : (opsS m gs' pl' cs ys).length = cs.length := opsS_len
  have ha' : Apart pl' pl := fun p hp q hq e => ha q hq p hp e.symm
  have e1 : opsS m gs pl (opsS m gs' pl' cs ys) xs = _ := opsS_ran xs _ (by rw [hl']; exact h)
  have e2 : opsS m gs' pl' (opsS m gs pl cs xs) ys = _ := opsS_ran ys _ (by rw [hl]; exact h')
  rw [e1, e2, opsS_ran ys cs h', opsS_ran xs cs h, sub_off h h' ha, sub_off h' h ha', put_comm h' h ha' (by rw [ran_len, sub_len]) (by rw [ran_len, sub_len])]
/-! ### the law's own steps on places -/
theorem pairs_put {cs pl vs : List Int} {i : Nat} {p v : Int} (hp : pl[i]? = some p) (hv : vs[i]? = some v) : putC cs (pl.take (i + 1)) (vs.take (i + 1)) = (putC cs (pl.take i) (vs.take i)).set p.toNat v := by
  unfold putC
  have e : (pl.take (i + 1)).zip (vs.take (i + 1)) = (pl.take i).zip (vs.take i) ++ [(p, v)] := by
    rw [List.take_succ, List.take_succ, hp, hv, List.zip_append (by
      have := (List.getElem?_eq_some_iff.mp hp).1
      have := (List.getElem?_eq_some_iff.mp hv).1
      rw [List.length_take, List.length_take]
      omega)]
    rfl
  rw [e, List.foldl_append]
  rfl
def suQ (Q : Fl × Hd → Prop) : Fl × Hd → Prop := fun o => match o with
  | (.xx _ _, _) => False
  | o => Q o
def trQ (sub : Str → Option Bool) (suite : Str → SF) (Q : Fl × Hd → Prop) : Fl × Hd → Prop := fun o => match o with
  | (.xx c r, M) => sub c = some true ∧ Wp (suite c r M) (suQ Q)
  | o => Q o
section
variable {sub : Str → Option Bool} {suite : Str → SF} {Q : Fl × Hd → Prop} {r : Ev} {M : Hd} {c : Str} {d : D} {body : SF}
theorem suQ_nx : suQ Q (.nx r, M) ↔ Q (.nx r, M) := Iff.rfl
theorem suQ_rt : suQ Q (.rt d, M) ↔ Q (.rt d, M) := Iff.rfl
theorem trQ_nx : trQ sub suite Q (.nx r, M) ↔ Q (.nx r, M) := Iff.rfl
theorem trQ_rt : trQ sub suite Q (.rt d, M) ↔ Q (.rt d, M) := Iff.rfl
theorem trQ_xx : trQ sub suite Q (.xx c r, M) ↔ (sub c = some true ∧ Wp (suite c r M) (suQ Q)) := Iff.rfl
theorem wp_tryN (h : Wp (body r M) (trQ sub suite Q)) : Wp (sTry sub body suite r M) Q := by
  obtain ⟨o, e, q⟩ := h
  unfold sTry
  rw [e]
  obtain ⟨fl, M1⟩ := o
  cases fl with
  | xx c r1 =>
    obtain ⟨h1, o2, e2, q2⟩ := q
    dsimp only
    rw [h1]
    dsimp only
    rw [e2]
    obtain ⟨fl2, M2⟩ := o2
    cases fl2 with
    | xx c r2 => exact q2.elim
    | nx r2 => exact ⟨_, rfl, q2⟩
    | bk r2 => exact ⟨_, rfl, q2⟩
    | ct r2 => exact ⟨_, rfl, q2⟩
    | rt d => exact ⟨_, rfl, q2⟩
  | nx r1 => exact ⟨_, rfl, q⟩
  | bk r1 => exact ⟨_, rfl, q⟩
  | ct r1 => exact ⟨_, rfl, q⟩
  | rt d => exact ⟨_, rfl, q⟩
end
/-! ### calls by the law -/
section
variable {M R : Hd} {v c l : Nat} {m : Int} {cs : List Int} {Ls : List (Option Ln)}
theorem VD.setx (h : VD M R v c l m cs Ls) {i : Nat} (h2 : 2 ≤ i) (hi : ¬ Foot v c l Ls i) (o : O) : VD (M.set i o) (R.set (i - 2) o) v c l m cs Ls :=
  ⟨h.dr.setI h2 o, h.va.frame fun j hj => by rw [List.getElem?_set_ne (by rintro rfl; exact hi hj)], h.c2, h.l2, h.t2⟩
theorem Hold.setx {i j : Nat} {o o2 : O} (h : Hold c l M j o) (hne : j ≠ i) : Hold c l (M.set i o2) j o := ⟨by rw [List.getElem?_set_ne (Ne.symm hne)]; exact h.at_, h.two, h.nc, h.nl, h.no⟩
theorem wp_okE {α : Type} {x : Option (Rs α)} {Q : α → Hd → Prop} (h : Wp x (okQ Q)) : ∃ d M, x = some (.ok d M) ∧ Q d M := by
  obtain ⟨o, e, q⟩ := h
  cases o with
  | ok d M => exact ⟨d, M, e, q⟩
  | er c M => exact q.elim
def busyD : D := .tup [.str "refused", .str "busy"]
/-- Vault(..) -/
theorem make_vault (hD : Dr M R) {q : Nat} {g : AF} {r : Ev} {M0 : Hd} {P : Rs D → Prop} (hm : 2 ≤ m ∧ m ≤ 1000000000) (hq : M[q]? = some (O.lst (cs.map D.int))) (hl : 1 ≤ cs.length ∧ cs.length ≤ 200) (hc : ∀ x ∈ cs, 0 ≤ x ∧ x < m) (hg : g r M0 = some (.ok [.ref q, .int m] M))
    (h : ∀ M1 R1, VD M1 R1 M.length (M.length + 1) (M.length + 2) m cs [] → (∀ (i : Nat) (o : O), M[i]? = some o → M1[i]? = some o) → P (.ok (.ref M.length) M1)) : Wp (eMake "Vault" m_Vault___init__ g r M0) P := by
  have hin := vault_init (M := M ++ [O.ins "Vault" []]) (q := q) (i := M.length) (cs := cs) hm get_here (get_old hq) hl hc
  have hl4 := hD.len
  have hl5 : (M ++ [O.ins "Vault" []]).length = M.length + 1 := by simp
  have hD5 := (hD.app [O.ins "Vault" []]).setI (i := M.length) (by omega) (vaultO m (M.length + 1) (M.length + 1 + 1))
  have hD6 := hD5.app [O.lst (cs.map D.int), .lst []]
  have hva := vault_at (M := M ++ [O.ins "Vault" []]) (i := M.length) (cs := cs) hm (by simp) hl hc
  rw [hl5] at hin hva
  unfold eMake
  rw [hg, bnd_ok, hin]
  refine wp_of_eq rfl (h _ _ ⟨hD6, hva, by omega, by omega, fun i L e => nomatch e⟩ fun i o e => ?_)
  have hl := (List.getElem?_eq_some_iff.mp e).1
  refine get_old ?_
  rw [List.getElem?_set_ne (by omega)]
  exact get_old e
/-- Program(m, n, k, list(steps)) among what is kept -/
theorem VD.prog (h : VD M R v c l m cs Ls) {n k z : Int} {xs : List Sp_} {s : Nat} {g : AF} {r : Ev} {P : Rs D → Prop} (ok : PgOk m n k xs z) (hz : z ≤ 20000) (hg : g r M = some (.ok [.int m, .int n, .int k, .ref M.length] (M ++ [.lst (xs.map spd)])))
    (hP : ∀ M1 R1 z s, M.length ≤ z → M.length ≤ s → VD M1 R1 v c l m cs Ls → Keep c l M M1 → PrgH c l M1 z s m n k xs → P (.ok (.ref z) M1)) : Wp (eMake "Program" m_Program___init__ g r M) P := by
  have h1 := h.app [.lst (xs.map spd)]
  refine make_go ok hz hg get_here ?_
  have hat := make_at (M1 := M ++ [O.lst (xs.map spd)]) (m := m) (n := n) (k := k) (xs := xs)
  refine hP _ _ _ ((M ++ [O.lst (xs.map spd)]).length + 1) (by simp) (by simp; omega) (h1.app _) ((h.kapp _).trans (h1.kapp _)) ⟨Hold.new (M0 := M) h hat.at_ (by simp) prog_no, Hold.new (M0 := M) h hat.st (by simp; omega) lst_no⟩
end
/-! ### chains of loans -/
def doO (m : Int) (cs : List Int) : Option Ln → List Int
  | none => cs
  | some L => opsS m L.gs L.pl cs (L.xs.take L.dn)
/-- the cells behind the steps of open loans, those with the least tickets first -/
def doAll (m : Int) (Ls : List (Option Ln)) (cs : List Int) : List Int := Ls.foldl (doO m) cs
theorem doAll_app {m : Int} {A B : List (Option Ln)} {cs : List Int} : doAll m (A ++ B) cs = doAll m B (doAll m A cs) := by unfold doAll; rw [List.foldl_append]
theorem doAll_none {m : Int} {k : Nat} {cs : List Int} : doAll m (List.replicate k none) cs = cs := by
  induction k with
  | zero => rfl
  | succ k ih =>
    rw [List.replicate_succ]
    exact ih
theorem doAll_len {m : Int} : ∀ {Ls : List (Option Ln)} {cs : List Int}, (doAll m Ls cs).length = cs.length := by
  intro Ls
  induction Ls with
  | nil => intro cs; rfl
  | cons o Ls ih =>
    intro cs
    show (doAll m Ls (doO m cs o)).length = _
    rw [ih]
    cases o with
    | none => rfl
    | some L => exact opsS_len
theorem doAll_in {m : Int} (hm : 0 < m) : ∀ {Ls : List (Option Ln)} {cs : List Int}, (∀ v ∈ cs, 0 ≤ v ∧ v < m) → ∀ v ∈ doAll m Ls cs, 0 ≤ v ∧ v < m := by
  intro Ls
  induction Ls with
  | nil => intro cs h; exact h
  | cons o Ls ih =>
    intro cs h
    refine ih (cs := doO m cs o) ?_
    cases o with
    | none => exact h
    | some L => exact opsS_in hm h
/-- the open loan with the greatest ticket, the closed ones behind it -/
theorem blk_top {A : List (Option Ln)} {L L' : Ln} {k : Nat} : blk (A ++ some L :: List.replicate k none) A.length L' = false := by
  unfold blk
  have e : (A ++ some L :: List.replicate k none).drop (A.length + 1) = List.replicate k none := by
    rw [← List.drop_drop, List.drop_append_of_le_length (Nat.le_refl _), List.drop_length]
    rfl
  rw [e, List.any_eq_false]
  intro o ho
  rw [(List.mem_replicate.mp ho).2]
  simp [shO]
theorem top_get {A : List (Option Ln)} {L : Ln} {k : Nat} : (A ++ some L :: List.replicate k none)[A.length]? = some (some L) := by
  rw [List.getElem?_append_right (Nat.le_refl _), Nat.sub_self]
  rfl
theorem top_set {A : List (Option Ln)} {L : Ln} {o : Option Ln} {k : Nat} : (A ++ some L :: List.replicate k none).set A.length o = A ++ o :: List.replicate k none := by
  rw [List.set_append_right _ _ (Nat.le_refl _), Nat.sub_self]
  rfl
/-- a list of loans is closed ones alone, or has a top -/
theorem top_or : ∀ (Ls : List (Option Ln)), (∃ k, Ls = List.replicate k none) ∨ ∃ A L k, Ls = A ++ some L :: List.replicate k none := by
  intro Ls
  induction Ls with
  | nil => exact .inl ⟨0, rfl⟩
  | cons o Ls ih =>
    rcases ih with ⟨k, rfl⟩ | ⟨A, L, k, rfl⟩
    · cases o with
      | none => exact .inl ⟨k + 1, rfl⟩
      | some L => exact .inr ⟨[], L, k, rfl⟩
    · exact .inr ⟨o :: A, L, k, rfl⟩
def opT : List (Option Ln) → Nat → List Int
  | [], _ => []
  | none :: r, k => opT r (k + 1)
  | some _ :: r, k => (k : Int) :: opT r (k + 1)
theorem openT_eq {Ls : List (Option Ln)} : openT Ls = opT Ls 0 := by
  unfold openT
  have key : ∀ (Ls : List (Option Ln)) (k : Nat), ((Ls.zipIdx k).filter fun q => q.1.isSome).map (fun q => (q.2 : Int)) = opT Ls k := by
    intro Ls
    induction Ls with
    | nil => intro k; rfl
    | cons o Ls ih =>
      intro k
      rw [List.zipIdx_cons, List.filter_cons]
      cases o with
      | none => exact ih (k + 1)
      | some L =>
        rw [if_pos (show ((some L, k) : Option Ln × Nat).1.isSome = true from rfl), List.map_cons, ih (k + 1)]
        rfl
  exact key Ls 0
theorem opT_app : ∀ {A B : List (Option Ln)} {k : Nat}, opT (A ++ B) k = opT A k ++ opT B (k + A.length)
  | [], B, k => rfl
  | none :: A, B, k => by
    show opT (A ++ B) (k + 1) = opT A (k + 1) ++ _
    rw [opT_app, List.length_cons, show k + 1 + A.length = k + (A.length + 1) by omega]
  | some L :: A, B, k => by
    show (k : Int) :: opT (A ++ B) (k + 1) = (k : Int) :: opT A (k + 1) ++ _
    rw [opT_app, List.length_cons, show k + 1 + A.length = k + (A.length + 1) by omega]
    rfl
theorem opT_none : ∀ {k j : Nat}, opT (List.replicate k none) j = []
  | 0, _ => rfl
  | k + 1, j => by rw [List.replicate_succ]; exact opT_none
theorem openT_top {A : List (Option Ln)} {L : Ln} {k : Nat} : openT (A ++ some L :: List.replicate k none) = openT A ++ [(A.length : Int)] := by
  rw [openT_eq, openT_eq, opT_app]
  show _ ++ ((0 + A.length : Nat) : Int) :: opT (List.replicate k none) _ = _
  rw [opT_none, Nat.zero_add]
theorem openT_cut {A : List (Option Ln)} {k : Nat} : openT (A ++ none :: List.replicate k none) = openT A := by
  rw [openT_eq, openT_eq, opT_app]
  show _ ++ opT (List.replicate k none) _ = _
  rw [opT_none, List.append_nil]
theorem openT_nones {k : Nat} : openT (List.replicate k none) = [] := by rw [openT_eq, opT_none]
theorem openT_len : ∀ (Ls : List (Option Ln)), (openT Ls).length ≤ Ls.length := by
  intro Ls
  rw [openT_eq]
  have key : ∀ (Ls : List (Option Ln)) (k : Nat), (opT Ls k).length ≤ Ls.length := by
    intro Ls
    induction Ls with
    | nil => intro k; exact Nat.le_refl _
    | cons o Ls ih =>
      intro k
      have := ih (k + 1)
      cases o with
      | none => show (opT Ls (k + 1)).length ≤ Ls.length + 1; omega
      | some L => show (opT Ls (k + 1)).length + 1 ≤ Ls.length + 1; omega
  exact key Ls 0
/-- what a compiled program's loan answers -/
theorem value_of {m b v x : Int} (hm : 2 ≤ m) (hv : 0 ≤ v ∧ v < m) (hb : 0 ≤ b ∧ b < m) (hx : x = (b + v) % m) : (x - b) % m = v := by
  subst hx
  rw [Int.sub_emod, Int.emod_emod, ← Int.sub_emod, show b + v - b = v by omega]
  exact Int.emod_eq_of_lt hv.1 hv.2
/-! ### the law's own steps -/
/-! ### steps are alike -/
theorem eqv_str {M : Hd} {n : Nat} {i : Str} : Eqv M n (.str i) (.str i) := by cases n <;> unfold Eqv <;> rfl
theorem eqv_tup {M : Hd} {n : Nat} {ds : List D} (hl : ds.length < 16777216) (h : ∀ d ∈ ds, Eqv M n d d) : Eqv M (n + 1) (.tup ds) (.tup ds) := by
  unfold Eqv
  refine ⟨rfl, hl, fun k d e h1 h2 => ?_⟩
  rw [h1] at h2
  cases h2
  exact h d (List.mem_of_getElem? h1)
theorem eqv_spd {M : Hd} {m n k : Int} {x : Sp_} (h : SpOk m n k x) : Eqv M 3 (spd x) (spd x) := by
  cases x with
  | add t c fs =>
    refine eqv_tup (by simp) fun d hd => ?_
    simp only [List.mem_cons, List.not_mem_nil, or_false] at hd
    rcases hd with rfl | rfl | rfl | rfl
    · exact eqv_str
    · exact eqv_int
    · exact eqv_int
    · refine eqv_tup (by have := h.2.2.1; simp; omega) fun d hd => ?_
      obtain ⟨y, _, rfl⟩ := List.mem_map.mp hd
      cases y with
      | cell i =>
        refine eqv_tup (by simp) fun d hd => ?_
        simp only [List.mem_cons, List.not_mem_nil, or_false] at hd
        rcases hd with rfl | rfl
        · exact eqv_str
        · exact eqv_int
      | inp i =>
        refine eqv_tup (by simp) fun d hd => ?_
        simp only [List.mem_cons, List.not_mem_nil, or_false] at hd
        rcases hd with rfl | rfl
        · exact eqv_str
        · exact eqv_int
  | scale t u =>
    refine eqv_tup (by simp) fun d hd => ?_
    simp only [List.mem_cons, List.not_mem_nil, or_false] at hd
    rcases hd with rfl | rfl | rfl
    · exact eqv_str
    · exact eqv_int
    · exact eqv_int
  | swap t u =>
    refine eqv_tup (by simp) fun d hd => ?_
    simp only [List.mem_cons, List.not_mem_nil, or_false] at hd
    rcases hd with rfl | rfl | rfl
    · exact eqv_str
    · exact eqv_int
    · exact eqv_int
  | table t s c f a b =>
    have hc := h.2.2.2.2.2.2.2.2.1
    refine eqv_tup (by simp) fun d hd => ?_
    simp only [List.mem_cons, List.not_mem_nil, or_false] at hd
    rcases hd with rfl | rfl | rfl | rfl | rfl | rfl
    · exact eqv_str
    · exact eqv_int
    · exact eqv_int
    · refine eqv_tup (by simp; omega) fun d hd => ?_
      obtain ⟨y, _, rfl⟩ := List.mem_map.mp hd
      refine eqv_tup (by simp; omega) fun d hd => ?_
      obtain ⟨y, _, rfl⟩ := List.mem_map.mp hd
      exact eqv_int
    · exact eqv_int
    · exact eqv_int
theorem equal_steps {M : Hd} {i j : Nat} {m n k : Int} {xs : List Sp_} (hi : M[i]? = some (.lst (xs.map spd))) (hj : M[j]? = some (.lst (xs.map spd))) (hl : xs.length ≤ 40000) (hx : ∀ x ∈ xs, SpOk m n k x) : Wp (m__law_equal [.ref i, .ref j] M) (okQ fun d M1 => M1 = M ∧ d = .bl true) :=
  eq_ok 4 9 _ _ (eqv_list hi hj (by simp; omega) fun d hd => by
    obtain ⟨c, hc, rfl⟩ := List.mem_map.mp hd
    exact eqv_spd (hx c hc)) (by decide)
/-! ### loans that share cells: the law's own reckoning -/
/-- the law's own list of loans -/
def jD : Option Ln → Nat → D
  | none, _ => .non
  | some _, j => .ref j
def jsD (Ls : List (Option Ln)) (Js : List Nat) : List D := List.zipWith jD Ls Js
theorem jsD_len {Ls : List (Option Ln)} {Js : List Nat} (h : Js.length = Ls.length) : (jsD Ls Js).length = Ls.length := by
  unfold jsD
  rw [List.length_zipWith]
  omega
theorem jsD_get {Ls : List (Option Ln)} {Js : List Nat} (h : Js.length = Ls.length) {t : Nat} {o : Option Ln} (ho : Ls[t]? = some o) : ∃ j, Js[t]? = some j ∧ (jsD Ls Js)[t]? = some (jD o j) := by
  have ht := (List.getElem?_eq_some_iff.mp ho).1
  refine ⟨Js[t]'(by omega), List.getElem?_eq_getElem (by omega), ?_⟩
  unfold jsD
  rw [List.getElem?_zipWith, ho, List.getElem?_eq_getElem (by omega)]
/-- the law's own loan -/
def jO (L : Ln) (s p g : Nat) : O := .lst [.int L.n, .int L.k, .ref s, .ref p, .ref g, .int L.dn, .int L.b]
def RdJ (M : Hd) (j : Nat) (L : Ln) : Prop := ∃ s p g, M[j]? = some (jO L s p g) ∧ M[s]? = some (.lst (L.xs.map spd)) ∧ M[p]? = some (.lst (L.pl.map D.int)) ∧ M[g]? = some (.lst (L.gs.map D.int))
theorem RdJ.app {M Z : Hd} {j : Nat} {L : Ln} (h : RdJ M j L) : RdJ (M ++ Z) j L := by
  obtain ⟨s, p, g, h1, h2, h3, h4⟩ := h
  exact ⟨s, p, g, get_old h1, get_old h2, get_old h3, get_old h4⟩
def kpI (pl : List Int) : D → Bool
  | .int p => pl.any fun q => q == p
  | _ => false
theorem kp_len {pl : List Int} : ∀ {ql : List Int}, (0 < ((ql.map D.int).filter (kpI pl)).length) ↔ (ql.any fun p => pl.any fun q => q == p) = true := by
  intro ql
  rw [List.length_pos_iff_exists_mem, List.any_eq_true]
  constructor
  · rintro ⟨d, hd⟩
    obtain ⟨h1, h2⟩ := List.mem_filter.mp hd
    obtain ⟨p, hp, rfl⟩ := List.mem_map.mp h1
    exact ⟨p, hp, h2⟩
  · rintro ⟨p, hp, h2⟩
    exact ⟨.int p, List.mem_filter.mpr ⟨List.mem_map_of_mem hp, h2⟩⟩
/-! ### loans that share cells: what the law keeps -/
theorem foot_out {M R : Hd} {v c l q : Nat} {m : Int} {cs : List Int} {Ls : List (Option Ln)} {ds : List D} (V : VD M R v c l m cs Ls) (hq : M[q]? = some (.lst ds)) (hc : q ≠ c) (hl : q ≠ l) (h : ∀ (j : Nat) L, Ls[j]? = some (some L) → q ≠ L.s ∧ q ≠ L.plr ∧ q ≠ L.gvr) : ¬ Foot v c l Ls q := by
  rintro (e | e | e | ⟨j, L', e, hj⟩)
  · subst e
    rw [V.va.vv] at hq
    cases hq
  · exact hc e
  · exact hl e
  · have w := V.va.ln j _ e
    obtain ⟨h1, h2, h3⟩ := h j L' e
    rcases hj with e | e | e | e | e
    · subst e
      rw [w.at_] at hq
      cases hq
    · subst e
      rw [w.pg.at_] at hq
      cases hq
    · exact h1 e
    · exact h2 e
    · exact h3 e
def mus (st lo kn : Nat) (Js : List Nat) : List Nat := st :: lo :: kn :: Js
/-- the law's own loan among what is kept -/
structure LJ (M : Hd) (c l : Nat) (mu : List Nat) (j : Nat) (L : Ln) (s p g : Nat) : Prop where
  j_ : Hold c l M j (jO L s p g)
  s_ : Hold c l M s (.lst (L.xs.map spd))
  p_ : Hold c l M p (.lst (L.pl.map D.int))
  g_ : Hold c l M g (.lst (L.gs.map D.int))
  sm : s ∉ mu
  pm : p ∉ mu
  gm : g ∉ mu
/-- a program that the law knows -/
structure KnAt (M : Hd) (c l : Nat) (mu : List Nat) (m N : Int) (q j0 s0 p0 g0 z s : Nat) (n k : Int) (xs : List Sp_) : Prop where
  q_ : Hold c l M q (.lst [.ref j0, .ref z])
  j_ : Hold c l M j0 (.lst [.int n, .int k, .ref s0, .ref p0, .ref g0])
  s_ : Hold c l M s0 (.lst (xs.map spd))
  pg : PrgH c l M z s m n k xs
  ok : PgOk m n k xs 20000
  hn : 1 ≤ n ∧ n ≤ 5 ∧ n ≤ N
  hk : 0 ≤ k ∧ k ≤ 2
  xl : xs.length ≤ 7
  qm : q ∉ mu
  jm : j0 ∉ mu
  sm : s0 ∉ mu
  zm : z ∉ mu
  tm : s ∉ mu
structure LS (M : Hd) (c l st lo kn : Nat) (m N : Int) (cs : List Int) (Ls : List (Option Ln)) (Js ks : List Nat) : Prop where
  hst : ∃ ms, Hold c l M st (.lst [.ref ms, .ref lo]) ∧ Hold c l M ms (.lst (cs.map D.int)) ∧ ms ∉ mus st lo kn Js
  hlo : Hold c l M lo (.lst (jsD Ls Js))
  jl : Js.length = Ls.length
  nd : (mus st lo kn Js).Nodup
  jb : ∀ j ∈ mus st lo kn Js, j < M.length
  hj : ∀ (t : Nat) L j, Ls[t]? = some (some L) → Js[t]? = some j → ∃ s p g, LJ M c l (mus st lo kn Js) j L s p g
  hkn : Hold c l M kn (.lst (ks.map D.ref))
  k2 : ks.length ≤ 2
  hk : ∀ q ∈ ks, ∃ j0 s0 p0 g0 z s n k xs, KnAt M c l (mus st lo kn Js) m N q j0 s0 p0 g0 z s n k xs
section
variable {M M1 : Hd} {c l st lo kn j q : Nat} {m N : Int} {cs : List Int} {Ls : List (Option Ln)} {Js ks mu : List Nat} {L : Ln} {s p g : Nat}
theorem LJ.keep (h : LJ M c l mu j L s p g) (K : Keep c l M M1) : LJ M1 c l mu j L s p g := ⟨h.j_.keep K, h.s_.keep K, h.p_.keep K, h.g_.keep K, h.sm, h.pm, h.gm⟩
theorem KnAt.keep {j0 s0 p0 g0 z : Nat} {n k : Int} {xs : List Sp_} (h : KnAt M c l mu m N q j0 s0 p0 g0 z s n k xs) (K : Keep c l M M1) : KnAt M1 c l mu m N q j0 s0 p0 g0 z s n k xs := ⟨h.q_.keep K, h.j_.keep K, h.s_.keep K, h.pg.keep K, h.ok, h.hn, h.hk, h.xl, h.qm, h.jm, h.sm, h.zm, h.tm⟩
theorem LS.keep (h : LS M c l st lo kn m N cs Ls Js ks) (K : Keep c l M M1) : LS M1 c l st lo kn m N cs Ls Js ks := by
  obtain ⟨ms, h1, h2, h3⟩ := h.hst
  refine ⟨⟨ms, h1.keep K, h2.keep K, h3⟩, h.hlo.keep K, h.jl, h.nd, fun j hj => Nat.lt_of_lt_of_le (h.jb j hj) K.le, fun t L j e1 e2 => ?_, h.hkn.keep K, h.k2, fun q hq => ?_⟩
  · obtain ⟨s, p, g, w⟩ := h.hj t L j e1 e2
    exact ⟨s, p, g, w.keep K⟩
  · obtain ⟨j0, s0, p0, g0, z, s, n, k, xs, w⟩ := h.hk q hq
    exact ⟨j0, s0, p0, g0, z, s, n, k, xs, w.keep K⟩
theorem ne_mem {a b : Nat} (h : b ∉ mu) (ha : a ∈ mu) : b ≠ a := fun e => h (e ▸ ha)
theorem KnAt.setx {a : Nat} {o : O} {j0 s0 p0 g0 z : Nat} {n k : Int} {xs : List Sp_} (h : KnAt M c l mu m N q j0 s0 p0 g0 z s n k xs) (ha : a ∈ mu) : KnAt (M.set a o) c l mu m N q j0 s0 p0 g0 z s n k xs :=
  ⟨h.q_.setx (ne_mem h.qm ha), h.j_.setx (ne_mem h.jm ha), h.s_.setx (ne_mem h.sm ha), ⟨h.pg.p.setx (ne_mem h.zm ha), h.pg.s.setx (ne_mem h.tm ha)⟩, h.ok, h.hn, h.hk, h.xl, h.qm, h.jm, h.sm, h.zm, h.tm⟩
theorem LJ.setx {a : Nat} {o : O} (h : LJ M c l mu j L s p g) (ha : a ∈ mu) (hne : j ≠ a) : LJ (M.set a o) c l mu j L s p g :=
  ⟨h.j_.setx hne, h.s_.setx (ne_mem h.sm ha), h.p_.setx (ne_mem h.pm ha), h.g_.setx (ne_mem h.gm ha), h.sm, h.pm, h.gm⟩
theorem mu_st : st ∈ mus st lo kn Js := List.mem_cons_self
theorem mu_lo : lo ∈ mus st lo kn Js := List.mem_cons_of_mem _ List.mem_cons_self
theorem mu_kn : kn ∈ mus st lo kn Js := List.mem_cons_of_mem _ (List.mem_cons_of_mem _ List.mem_cons_self)
theorem mu_j (h : j ∈ Js) : j ∈ mus st lo kn Js := List.mem_cons_of_mem _ (List.mem_cons_of_mem _ (List.mem_cons_of_mem _ h))
theorem mu_nd (h : (mus st lo kn Js).Nodup) : (st ≠ lo ∧ st ≠ kn ∧ lo ≠ kn) ∧ (∀ j ∈ Js, j ≠ st ∧ j ≠ lo ∧ j ≠ kn) ∧ Js.Nodup := by
  unfold mus at h
  simp only [List.nodup_cons, List.mem_cons, not_or] at h
  obtain ⟨⟨h1, h2, h3⟩, ⟨h4, h5⟩, h6, h7⟩ := h
  exact ⟨⟨h1, h2, h4⟩, fun j hj => ⟨fun e => h3 (e ▸ hj), fun e => h5 (e ▸ hj), fun e => h6 (e ▸ hj)⟩, h7⟩
theorem set_hold {i : Nat} {o : O} {ds : List D} (h : Hold c l M i o) : Hold c l (M.set i (.lst ds)) i (.lst ds) := ⟨set_get h.at_, h.two, h.nc, h.nl, lst_no⟩
/-- the law's memory is another one -/
theorem LS.setst (h : LS M c l st lo kn m N cs Ls Js ks) {ms : Nat} {cs' : List Int} (hm : Hold c l M ms (.lst (cs'.map D.int))) (hn : ms ∉ mus st lo kn Js) : LS (M.set st (.lst [.ref ms, .ref lo])) c l st lo kn m N cs' Ls Js ks := by
  obtain ⟨ms0, h1, h2, h3⟩ := h.hst
  obtain ⟨⟨n1, n2, n3⟩, n4, n5⟩ := mu_nd h.nd
  refine ⟨⟨ms, set_hold h1, hm.setx (ne_mem hn mu_st), hn⟩, h.hlo.setx n1.symm, h.jl, h.nd, fun j hj => by rw [List.length_set]; exact h.jb j hj, fun t L j e1 e2 => ?_, h.hkn.setx n2.symm, h.k2, fun q hq => ?_⟩
  · obtain ⟨s, p, g, w⟩ := h.hj t L j e1 e2
    exact ⟨s, p, g, w.setx mu_st (n4 j (List.mem_of_getElem? e2)).1⟩
  · obtain ⟨j0, s0, p0, g0, z, s, n, k, xs, w⟩ := h.hk q hq
    exact ⟨j0, s0, p0, g0, z, s, n, k, xs, w.setx mu_st⟩
theorem jsD_none {Ls : List (Option Ln)} {Js : List Nat} {t : Nat} (hl : Js.length = Ls.length) : (jsD Ls Js).set t .non = jsD (Ls.set t none) Js := by
  unfold jsD
  refine List.ext_getElem? fun i => ?_
  rw [List.getElem?_zipWith, List.getElem?_set, List.getElem?_zipWith, List.length_zipWith, List.getElem?_set]
  by_cases hti : t = i
  · subst hti
    rw [if_pos rfl, if_pos rfl, hl]
    by_cases h : t < Ls.length
    · rw [if_pos (by omega), if_pos h, List.getElem?_eq_getElem (show t < Js.length by omega)]
      rfl
    · rw [if_neg (by omega), if_neg h]
  · rw [if_neg hti, if_neg hti]
theorem jsD_dn {Ls : List (Option Ln)} {Js : List Nat} {t : Nat} {L L' : Ln} (hL : Ls[t]? = some (some L)) : jsD (Ls.set t (some L')) Js = jsD Ls Js := by
  unfold jsD
  refine List.ext_getElem? fun i => ?_
  rw [List.getElem?_zipWith, List.getElem?_zipWith, List.getElem?_set]
  by_cases hti : t = i
  · subst hti
    rw [if_pos rfl, if_pos (List.getElem?_eq_some_iff.mp hL).1, hL]
    cases Js[t]? <;> rfl
  · rw [if_neg hti]
/-- a loan of the law is closed -/
theorem LS.setlo (h : LS M c l st lo kn m N cs Ls Js ks) (t : Nat) : LS (M.set lo (.lst ((jsD Ls Js).set t .non))) c l st lo kn m N cs (Ls.set t none) Js ks := by
  obtain ⟨ms0, h1, h2, h3⟩ := h.hst
  obtain ⟨⟨n1, n2, n3⟩, n4, n5⟩ := mu_nd h.nd
  refine ⟨⟨ms0, h1.setx n1, h2.setx (ne_mem h3 mu_lo), h3⟩, ?_, by rw [List.length_set]; exact h.jl, h.nd, fun j hj => by rw [List.length_set]; exact h.jb j hj, fun t' L j e1 e2 => ?_, h.hkn.setx n3.symm, h.k2, fun q hq => ?_⟩
  · rw [jsD_none h.jl]
    exact set_hold h.hlo
  · rcases set_at e1 with ⟨_, e5⟩ | ⟨_, e5⟩
    · cases e5
    obtain ⟨s, p, g, w⟩ := h.hj t' L j e5 e2
    exact ⟨s, p, g, w.setx mu_lo (n4 j (List.mem_of_getElem? e2)).2.1⟩
  · obtain ⟨j0, s0, p0, g0, z, s, n, k, xs, w⟩ := h.hk q hq
    exact ⟨j0, s0, p0, g0, z, s, n, k, xs, w.setx mu_lo⟩
/-- a loan of the law has advanced -/
theorem LS.setj (h : LS M c l st lo kn m N cs Ls Js ks) {t : Nat} (hL : Ls[t]? = some (some L)) (hj : Js[t]? = some j) (w : LJ M c l (mus st lo kn Js) j L s p g) (dn : Nat) : LS (M.set j (jO { L with dn := dn } s p g)) c l st lo kn m N cs (Ls.set t (some { L with dn := dn })) Js ks := by
  obtain ⟨ms0, h1, h2, h3⟩ := h.hst
  obtain ⟨⟨n1, n2, n3⟩, n4, n5⟩ := mu_nd h.nd
  have hjm := List.mem_of_getElem? hj
  have hmj : j ∈ mus st lo kn Js := mu_j hjm
  obtain ⟨a1, a2, a3⟩ := n4 j hjm
  refine ⟨⟨ms0, h1.setx a1.symm, h2.setx (ne_mem h3 hmj), h3⟩, ?_, by rw [List.length_set]; exact h.jl, h.nd, fun j hj => by rw [List.length_set]; exact h.jb j hj, fun t' L' j' e1 e2 => ?_, h.hkn.setx a3.symm, h.k2, fun q hq => ?_⟩
  · rw [jsD_dn hL]
    exact h.hlo.setx a2.symm
  · rcases set_at e1 with ⟨rfl, e5⟩ | ⟨ht, e5⟩
    · cases e5
      rw [hj] at e2
      cases e2
      exact ⟨s, p, g, set_hold w.j_, w.s_.setx (ne_mem w.sm hmj), w.p_.setx (ne_mem w.pm hmj), w.g_.setx (ne_mem w.gm hmj), w.sm, w.pm, w.gm⟩
    · obtain ⟨s, p, g, w⟩ := h.hj t' L' j' e5 e2
      refine ⟨s, p, g, w.setx hmj ?_⟩
      rintro rfl
      exact ht ((List.getElem?_inj (List.getElem?_eq_some_iff.mp hj).1 n5).mp (hj.trans e2.symm))
  · obtain ⟨j0, s0, p0, g0, z, s, n, k, xs, w⟩ := h.hk q hq
    exact ⟨j0, s0, p0, g0, z, s, n, k, xs, w.setx hmj⟩
theorem hold_lt {i : Nat} {o : O} (h : Hold c l M i o) : i < M.length := (List.getElem?_eq_some_iff.mp h.at_).1
theorem mus_add {a : Nat} (h : a ∉ mus st lo kn Js) (ha : a ≠ j) : a ∉ mus st lo kn (Js ++ [j]) := by
  unfold mus at h ⊢
  simp only [List.mem_cons, List.mem_append, List.not_mem_nil, or_false, not_or] at h ⊢
  exact ⟨h.1, h.2.1, h.2.2.1, h.2.2.2, ha⟩
theorem jsD_add {Ls : List (Option Ln)} {Js : List Nat} {L : Ln} {j : Nat} (hl : Js.length = Ls.length) : jsD (Ls ++ [some L]) (Js ++ [j]) = jsD Ls Js ++ [.ref j] := by
  unfold jsD
  rw [List.zipWith_append (by omega)]
  rfl
/-- the law lends, too -/
theorem LS.add (h : LS M c l st lo kn m N cs Ls Js ks) (hcl : c < M.length ∧ l < M.length ∧ 2 ≤ M.length) (hs : Hold c l M s (.lst (L.xs.map spd))) (hp : Hold c l M p (.lst (L.pl.map D.int))) (hg : Hold c l M g (.lst (L.gs.map D.int))) (sm : s ∉ mus st lo kn Js) (pm : p ∉ mus st lo kn Js) (gm : g ∉ mus st lo kn Js) :
    LS ((M ++ [jO L s p g]).set lo (.lst (jsD Ls Js ++ [.ref M.length]))) c l st lo kn m N cs (Ls ++ [some L]) (Js ++ [M.length]) ks := by
  have K : Keep c l M (M ++ [jO L s p g]) := ⟨by simp, fun i o e _ _ _ _ => get_old e⟩
  have hj : Hold c l (M ++ [jO L s p g]) M.length (jO L s p g) := ⟨get_here, hcl.2.2, by omega, by omega, lst_no⟩
  obtain ⟨ms0, h1, h2, h3⟩ := h.hst
  obtain ⟨⟨n1, n2, n3⟩, n4, n5⟩ := mu_nd h.nd
  have hlo := hold_lt h.hlo
  have hnd : (mus st lo kn (Js ++ [M.length])).Nodup := by
    have h9 := h.nd
    have e : mus st lo kn (Js ++ [M.length]) = mus st lo kn Js ++ [M.length] := rfl
    rw [e, List.nodup_append]
    refine ⟨h9, by simp, fun a ha b hb => ?_⟩
    have := h.jb a ha
    simp at hb
    omega
  have hlo2 : lo ∈ mus st lo kn (Js ++ [M.length]) := mu_lo
  have lt := fun {i : Nat} {o : O} (w : Hold c l M i o) => hold_lt w
  have add := fun {i : Nat} {o : O} (w : Hold c l M i o) (hi : i ∉ mus st lo kn Js) => mus_add (j := M.length) hi (Nat.ne_of_lt (lt w))
  refine ⟨⟨ms0, (h1.keep K).setx n1, (h2.keep K).setx (ne_mem h3 mu_lo), add h2 h3⟩, ?_, by simp [h.jl], hnd, fun j hj => ?_, fun t' L' j' e1 e2 => ?_, (h.hkn.keep K).setx n3.symm, h.k2, fun q hq => ?_⟩
  · rw [jsD_add h.jl]
    exact set_hold (h.hlo.keep K)
  · rw [List.length_set, List.length_append]
    have e : mus st lo kn (Js ++ [M.length]) = mus st lo kn Js ++ [M.length] := rfl
    rw [e] at hj
    rcases List.mem_append.mp hj with hj | hj
    · have := h.jb j hj
      omega
    · simp at hj
      simp
      omega
  · rw [List.getElem?_append] at e1
    split at e1
    · rename_i ht
      rw [List.getElem?_append_left (by have := h.jl; omega)] at e2
      obtain ⟨s', p', g', w⟩ := h.hj t' L' j' e1 e2
      have w2 : LJ (M ++ [jO L s p g]) c l (mus st lo kn (Js ++ [M.length])) j' L' s' p' g' := ⟨w.j_.keep K, w.s_.keep K, w.p_.keep K, w.g_.keep K, add w.s_ w.sm, add w.p_ w.pm, add w.g_ w.gm⟩
      exact ⟨s', p', g', w2.setx hlo2 (n4 j' (List.mem_of_getElem? e2)).2.1⟩
    · have ht := (List.getElem?_eq_some_iff.mp e1).1
      have ht0 : t' = Ls.length := by simp at ht; omega
      subst ht0
      rw [Nat.sub_self] at e1
      cases e1
      rw [← h.jl, List.getElem?_append_right (Nat.le_refl _), Nat.sub_self] at e2
      cases e2
      have w2 : LJ (M ++ [jO L s p g]) c l (mus st lo kn (Js ++ [M.length])) M.length L s p g := ⟨hj, hs.keep K, hp.keep K, hg.keep K, add hs sm, add hp pm, add hg gm⟩
      exact ⟨s, p, g, w2.setx hlo2 (by omega)⟩
  · obtain ⟨j0, s0, p0, g0, z, s, n, k, xs, w⟩ := h.hk q hq
    have w2 : KnAt (M ++ [jO L _ p g]) c l (mus st lo kn (Js ++ [M.length])) m N q j0 s0 p0 g0 z s n k xs := ⟨w.q_.keep K, w.j_.keep K, w.s_.keep K, w.pg.keep K, w.ok, w.hn, w.hk, w.xl, add w.q_ w.qm, add w.j_ w.jm, add w.s_ w.sm, add w.pg.p w.zm, add w.pg.s w.tm⟩
    exact ⟨j0, s0, p0, g0, z, s, n, k, xs, w2.setx hlo2⟩
/-- one more program is known -/
theorem LS.addk (h : LS M c l st lo kn m N cs Ls Js ks) (hk2 : ks.length ≤ 1) {j0 s0 p0 g0 z : Nat} {n k : Int} {xs : List Sp_} (w : KnAt M c l (mus st lo kn Js) m N q j0 s0 p0 g0 z s n k xs) : LS (M.set kn (.lst ((ks ++ [q]).map D.ref))) c l st lo kn m N cs Ls Js (ks ++ [q]) := by
  obtain ⟨ms0, h1, h2, h3⟩ := h.hst
  obtain ⟨⟨n1, n2, n3⟩, n4, n5⟩ := mu_nd h.nd
  refine ⟨⟨ms0, h1.setx n2, h2.setx (ne_mem h3 mu_kn), h3⟩, h.hlo.setx n3, h.jl, h.nd, fun j hj => by rw [List.length_set]; exact h.jb j hj, fun t' L j e1 e2 => ?_, set_hold h.hkn, by simp; omega, fun q' hq => ?_⟩
  · obtain ⟨s, p, g, w⟩ := h.hj t' L j e1 e2
    exact ⟨s, p, g, w.setx mu_kn (n4 j (List.mem_of_getElem? e2)).2.2⟩
  · rcases List.mem_append.mp hq with hq | hq
    · obtain ⟨j0, s0, p0, g0, z, s, n, k, xs, w⟩ := h.hk q' hq
      exact ⟨j0, s0, p0, g0, z, s, n, k, xs, w.setx mu_kn⟩
    · simp at hq
      subst hq
      exact ⟨j0, s0, p0, g0, z, s, n, k, xs, w.setx mu_kn⟩
end
/-- the vault's lists are none of the law's -/
def Fr (mu : List Nat) (Ls : List (Option Ln)) : Prop := ∀ (t : Nat) L, Ls[t]? = some (some L) → L.s ∉ mu ∧ L.plr ∉ mu ∧ L.gvr ∉ mu
theorem VD.setm {M R : Hd} {v c l a : Nat} {m : Int} {cs : List Int} {Ls : List (Option Ln)} {mu : List Nat} {ds ds' : List D} (V : VD M R v c l m cs Ls) (F : Fr mu Ls) (ha : a ∈ mu) (h : Hold c l M a (.lst ds)) : VD (M.set a (.lst ds')) (R.set (a - 2) (.lst ds')) v c l m cs Ls :=
  V.setx h.two (foot_out V h.at_ h.nc h.nl fun j L e => ⟨(ne_mem (F j L e).1 ha).symm, (ne_mem (F j L e).2.1 ha).symm, (ne_mem (F j L e).2.2 ha).symm⟩) _
theorem nf_set {P : Ln → Prop} {Ls : List (Option Ln)} {t : Nat} {o : Option Ln} (h : ∀ (j : Nat) L, Ls[j]? = some (some L) → P L) (ho : ∀ L, o = some L → P L) : ∀ (j : Nat) L, (Ls.set t o)[j]? = some (some L) → P L := fun j L e => by
  rcases set_at e with ⟨rfl, e5⟩ | ⟨_, e5⟩
  · exact ho L e5.symm
  · exact h j L e5
/-! ### two vaults: what calling back makes of the cells -/
noncomputable def unO (m : Int) (o : Option Ln) (cs : List Int) : List Int := match o with
  | none => cs
  | some L => opsS m L.gs L.pl cs (backS m (L.xs.take L.dn))
noncomputable def unAll (m : Int) (Ls : List (Option Ln)) (cs : List Int) : List Int := Ls.foldr (unO m) cs
def dnO : Option Ln → Int
  | none => 0
  | some L => L.dn
def sdn : List (Option Ln) → Int
  | [] => 0
  | o :: r => dnO o + sdn r
section
variable {m : Int} {cs cs0 : List Int} {A B Ls : List (Option Ln)} {o : Option Ln} {L : Ln} {t : Nat}
theorem unAll_app : unAll m (A ++ o :: B) cs = unAll m A (unO m o (unAll m B cs)) := by
  unfold unAll
  rw [List.foldr_append]
  rfl
theorem unO_len : (unO m o cs).length = cs.length := by
  cases o with
  | none => rfl
  | some L => exact opsS_len
theorem unAll_len : (unAll m B cs).length = cs.length := by
  induction B with
  | nil => rfl
  | cons o B ih => exact unO_len.trans ih
theorem unO_in (hm : 0 < m) (h : ∀ v ∈ cs, 0 ≤ v ∧ v < m) : ∀ v ∈ unO m o cs, 0 ≤ v ∧ v < m := by
  cases o with
  | none => exact h
  | some L => exact opsS_in hm h
theorem unAll_in (hm : 0 < m) (h : ∀ v ∈ cs, 0 ≤ v ∧ v < m) : ∀ v ∈ unAll m B cs, 0 ≤ v ∧ v < m := by
  induction B with
  | nil => exact h
  | cons o B ih => exact unO_in hm ih
theorem unAll_comm {gs pl : List Int} {ys : List Sp_} (hpl : Pls cs.length pl) : ∀ {B : List (Option Ln)}, (∀ L', some L' ∈ B → Pls cs.length L'.pl ∧ Apart pl L'.pl) → unAll m B (opsS m gs pl cs ys) = opsS m gs pl (unAll m B cs) ys := by
  intro B
  induction B with
  | nil => intro _; rfl
  | cons o B ih =>
    intro h
    have h1 := ih fun L' hL' => h L' (List.mem_cons_of_mem _ hL')
    show unO m o (unAll m B (opsS m gs pl cs ys)) = opsS m gs pl (unO m o (unAll m B cs)) ys
    rw [h1]
    cases o with
    | none => rfl
    | some L' =>
      obtain ⟨h2, h3⟩ := h L' List.mem_cons_self
      show opsS m L'.gs L'.pl (opsS m gs pl (unAll m B cs) ys) (backS m (L'.xs.take L'.dn)) = opsS m gs pl (opsS m L'.gs L'.pl (unAll m B cs) (backS m (L'.xs.take L'.dn))) ys
      exact opsS_comm (by rw [unAll_len]; exact h2) (by rw [unAll_len]; exact hpl) fun p hp q hq e => h3 q hq p hp e.symm
theorem backS_app {xs ys : List Sp_} : backS m (xs ++ ys) = backS m ys ++ backS m xs := by
  unfold backS
  rw [List.map_append, List.reverse_append]
theorem split_at (h : Ls[t]? = some o) : Ls = Ls.take t ++ o :: Ls.drop (t + 1) := by
  obtain ⟨ht, e⟩ := List.getElem?_eq_some_iff.mp h
  rw [← e, ← List.drop_eq_getElem_cons ht, List.take_append_drop]
theorem set_split {o2 : Option Ln} (h : Ls[t]? = some o) : Ls.set t o2 = Ls.take t ++ o2 :: Ls.drop (t + 1) := by
  obtain ⟨ht, e⟩ := List.getElem?_eq_some_iff.mp h
  exact List.set_eq_take_append_cons_drop.trans (if_pos ht)
theorem blk_apart (hb : blk Ls t L = false) : ∀ L', some L' ∈ Ls.drop (t + 1) → Apart L.pl L'.pl := by
  intro L' hL' p hp q hq e
  unfold blk at hb
  rw [List.any_eq_false] at hb
  have h := hb _ hL'
  apply h
  show (L'.pl.any fun p => L.pl.any fun q => q == p) = true
  rw [List.any_eq_true]
  refine ⟨q, hq, ?_⟩
  rw [List.any_eq_true]
  exact ⟨p, hp, by rw [e]; simp⟩
theorem sdn_app : sdn (A ++ o :: B) = sdn A + dnO o + sdn B := by
  induction A with
  | nil => show dnO o + sdn B = 0 + dnO o + sdn B; omega
  | cons a A ih => show dnO a + sdn (A ++ o :: B) = dnO a + sdn A + dnO o + sdn B; omega
theorem sdn_none {k : Nat} : sdn (List.replicate k none) = 0 := by
  induction k with
  | zero => rfl
  | succ k ih => rw [List.replicate_succ]; show 0 + sdn _ = 0; omega
theorem unAll_none {k : Nat} : unAll m (List.replicate k none) cs = cs := by
  induction k with
  | zero => rfl
  | succ k ih => rw [List.replicate_succ]; show unO m none (unAll m (List.replicate k none) cs) = cs; rw [ih]; rfl
theorem take_moreX {xs : List Sp_} {dn : Nat} {most : Nat} : xs.take (dn + ((xs.drop dn).take most).length) = xs.take dn ++ (xs.drop dn).take most := by
  rw [List.take_add]
  congr 1
  rw [List.length_take]
  rcases Nat.le_total most (xs.drop dn).length with h | h
  · rw [Nat.min_eq_left h]
  · rw [Nat.min_eq_right h, List.take_length, List.take_of_length_le h]
end
section
variable {M R : Hd} {v c l : Nat} {m : Int} {cs cs0 : List Int} {Ls : List (Option Ln)} {L : Ln} {t : Nat}
theorem VAt.later (h : VAt M v c l m cs Ls) (hb : blk Ls t L = false) : ∀ L', some L' ∈ Ls.drop (t + 1) → Pls cs.length L'.pl ∧ Apart L.pl L'.pl := by
  intro L' hL'
  refine ⟨?_, blk_apart hb L' hL'⟩
  obtain ⟨i, hi⟩ := List.getElem?_of_mem hL'
  rw [List.getElem?_drop] at hi
  have q := h.ln _ L' hi
  exact ⟨q.nd, q.la.pin⟩
theorem VAt.un_adv (h : VAt M v c l m cs Ls) (hL : Ls[t]? = some (some L)) (hb : blk Ls t L = false) (k : Nat) : unAll m (Ls.set t (some { L with dn := L.dn + ((L.xs.drop L.dn).take k).length })) (opsS m L.gs L.pl cs ((L.xs.drop L.dn).take k)) = unAll m Ls cs := by
  have q := h.ln t L hL
  have hpl : Pls cs.length L.pl := ⟨q.nd, q.la.pin⟩
  rw [set_split hL]
  conv => rhs; rw [split_at hL]
  rw [unAll_app, unAll_app, unAll_comm hpl (h.later hb)]
  congr 1
  have hX : ∀ v ∈ unAll m (Ls.drop (t + 1)) cs, 0 ≤ v ∧ v < m := unAll_in (by have := h.hm; omega) h.ci
  have hXl : (unAll m (Ls.drop (t + 1)) cs).length = cs.length := unAll_len
  generalize unAll m (Ls.drop (t + 1)) cs = X at hX hXl
  show opsS m L.gs L.pl (opsS m L.gs L.pl X ((L.xs.drop L.dn).take k)) (backS m (L.xs.take (L.dn + ((L.xs.drop L.dn).take k).length))) = opsS m L.gs L.pl X (backS m (L.xs.take L.dn))
  rw [take_moreX, backS_app, opsS_app, opsS_back h.hm (n := L.n) (k := L.k) (fun x hx => q.ok.hx x (List.mem_of_mem_drop (List.mem_of_mem_take hx))) q.la.pn (by rw [hXl]; exact hpl) hX]
theorem VAt.un_rec (h : VAt M v c l m cs Ls) (hL : Ls[t]? = some (some L)) (hb : blk Ls t L = false) : unAll m (Ls.set t none) (opsS m L.gs L.pl cs (backS m (L.xs.take L.dn))) = unAll m Ls cs := by
  have q := h.ln t L hL
  have hpl : Pls cs.length L.pl := ⟨q.nd, q.la.pin⟩
  rw [set_split hL]
  conv => rhs; rw [split_at hL]
  rw [unAll_app, unAll_app, unAll_comm hpl (h.later hb)]
  rfl
theorem sdn_set {o o2 : Option Ln} (hL : Ls[t]? = some o) : sdn (Ls.set t o2) = sdn Ls - dnO o + dnO o2 := by
  rw [set_split hL]
  conv => rhs; rw [split_at hL]
  rw [sdn_app, sdn_app]
  omega
/-! ### what a vault changes -/
def Own (c l : Nat) (Ls : List (Option Ln)) (i : Nat) : Prop := i = c ∨ i = l ∨ ∃ (j : Nat) (L : Ln), Ls[j]? = some (some L) ∧ i = L.a
structure KeepX (c l : Nat) (Ls : List (Option Ln)) (M M1 : Hd) : Prop where
  le : M.length ≤ M1.length
  at_ : ∀ i o, M[i]? = some o → 2 ≤ i → ¬ Own c l Ls i → M1[i]? = some o
theorem VD.advanceX (h : VD M R v c l m cs Ls) {t : Nat} {L : Ln} (hL : Ls[t]? = some (some L)) (hb : blk Ls t L = false) {most : Int} (hmo : 0 ≤ most) :
    Wp (m_Vault_advance [.ref v, .int t, .int most] M) (okQ fun d M1 => d = .int ((L.xs.drop L.dn).take most.toNat).length ∧ ∃ R1, VD M1 R1 v c l m (opsS m L.gs L.pl cs ((L.xs.drop L.dn).take most.toNat)) (Ls.set t (some { L with dn := L.dn + ((L.xs.drop L.dn).take most.toNat).length })) ∧ KeepX c l Ls M M1) := by
  have q := h.va.ln t L hL
  refine (advance_ok h.va hL hb hmo).ok ?_
  rintro d M1 ⟨rfl, Z, rfl⟩
  generalize hys : (L.xs.drop L.dn).take most.toNat = ys
  have hdl : L.dn + ys.length ≤ L.xs.length := by
    have := q.dl
    rw [← hys, List.length_take, List.length_drop]
    omega
  have hin := opsS_in (xs := ys) (gs := L.gs) (pl := L.pl) (by have := h.va.hm; omega) h.va.ci
  have h1 := h.va.setc opsS_len hin
  have h2 := (h1.setd hL hdl).app (X := Z)
  refine ⟨rfl, _, ⟨((h.dr.setI h.c2 _).setI (h.dr.ins2 q.at_) _).app Z, h2, h.c2, h.l2, fun i L' e => ?_⟩, ?_⟩
  · rcases set_at e with ⟨rfl, e5⟩ | ⟨_, e5⟩
    · cases e5
      exact h.t2 t L hL
    · exact h.t2 i L' e5
  · refine ⟨by simp, fun i o e h2 hno => ?_⟩
    have hia : i ≠ L.a := fun e => hno (.inr (.inr ⟨t, L, hL, e⟩))
    have hc : i ≠ c := fun e => hno (.inl e)
    refine get_old ?_
    rw [List.getElem?_set_ne (Ne.symm hia), List.getElem?_set_ne (Ne.symm hc)]
    exact e
theorem VD.recallX (h : VD M R v c l m cs Ls) {t : Nat} {L : Ln} (hL : Ls[t]? = some (some L)) (hb : blk Ls t L = false) :
    Wp (m_Vault_recall [.ref v, .int t] M) (okQ fun d M1 => d = .int L.dn ∧ ∃ R1, VD M1 R1 v c l m (opsS m L.gs L.pl cs (backS m (L.xs.take L.dn))) (Ls.set t none) ∧ KeepX c l Ls M M1) := by
  refine (recall_ok h.va hL hb).ok ?_
  rintro d M1 ⟨rfl, Z, rfl⟩
  have hin := opsS_in (xs := backS m (L.xs.take L.dn)) (gs := L.gs) (pl := L.pl) (by have := h.va.hm; omega) h.va.ci
  have h1 := h.va.setc opsS_len hin
  have h2 := (h1.setn (List.getElem?_eq_some_iff.mp hL).1).app (X := Z)
  refine ⟨rfl, _, ⟨((h.dr.setI h.c2 _).setI h.l2 _).app Z, h2, h.c2, h.l2, fun i L' e => ?_⟩, ?_⟩
  · rcases set_at e with ⟨rfl, e5⟩ | ⟨_, e5⟩
    · cases e5
    · exact h.t2 i L' e5
  · refine ⟨by simp, fun i o e h2 hno => get_old ?_⟩
    have hc : i ≠ c := fun e => hno (.inl e)
    have hl : i ≠ l := fun e => hno (.inr (.inl e))
    rw [List.getElem?_set_ne (Ne.symm hl), List.getElem?_set_ne (Ne.symm hc)]
    exact e
theorem VD.lendX (h : VD M R v c l m cs Ls) {n k : Int} {xs : List Sp_} {pl gs : List Int} {z s q u : Nat} (hpg : PrgH c l M z s m n k xs) (hq : M[q]? = some (O.lst (pl.map D.int))) (hu : M[u]? = some (O.lst (gs.map D.int))) (ok : PgOk m n k xs 20000) (hpn : (pl.length : Int) = n) (hp : ∀ p ∈ pl, 0 ≤ p ∧ p < cs.length) (hnd : pl.Nodup) (hgk : (gs.length : Int) = k) (hg : ∀ x ∈ gs, 0 ≤ x ∧ x < m) (hlL : Ls.length < 1000) :
    Wp (m_Vault_lend [.ref v, .ref z, .ref q, .ref u] M) (okQ fun d M1 => d = .int Ls.length ∧ ∃ R1, VD M1 R1 v c l m cs (Ls ++ [some (newLn M n k xs pl gs cs z s)]) ∧ KeepX c l Ls M M1) := by
  refine (lend_ok h.va hpg.at_ hq hu hpn ok.hn hp hnd hgk hg hlL).ok ?_
  rintro d M1 ⟨rfl, rfl⟩
  have h2 := h.va.add (b := cg cs (cg pl 0)) hpg.at_ hpg.s.nl ok hpn hp hnd hgk hg hlL
  have hl2 := h.dr.len
  refine ⟨rfl, _, ⟨(h.dr.setI h.l2 _).app _, h2, h.c2, h.l2, fun i L' e => ?_⟩, ?_⟩
  · rw [List.getElem?_append] at e
    split at e
    · exact h.t2 i L' e
    · rename_i hi
      have hi0 : i - Ls.length = 0 := by
        have := (List.getElem?_eq_some_iff.mp e).1
        simp at this
        omega
      rw [hi0] at e
      cases e
      exact ⟨hpg.s.two, by show 2 ≤ M.length; omega, by show 2 ≤ M.length + 1; omega⟩
  · refine ⟨by simp, fun i o e h2 hno => get_old ?_⟩
    have hl : i ≠ l := fun e => hno (.inr (.inl e))
    rw [List.getElem?_set_ne (Ne.symm hl)]
    exact e
theorem foot_get (h : VD M R v c l m cs Ls) {i : Nat} (hi : Foot v c l Ls i) : ∃ o, M[i]? = some o ∧ 2 ≤ i := by
  rcases hi with rfl | rfl | rfl | ⟨j, L, e, hj⟩
  · exact ⟨_, h.va.vv, h.dr.ins2 h.va.vv⟩
  · exact ⟨_, h.va.cc, h.c2⟩
  · exact ⟨_, h.va.ll, h.l2⟩
  · have q := h.va.ln j L e
    obtain ⟨t1, t2, t3⟩ := h.t2 j L e
    rcases hj with rfl | rfl | rfl | rfl | rfl
    · exact ⟨_, q.at_, h.dr.ins2 q.at_⟩
    · exact ⟨_, q.pg.at_, h.dr.ins2 q.pg.at_⟩
    · exact ⟨_, q.pg.st, t1⟩
    · exact ⟨_, q.la.pls, t2⟩
    · exact ⟨_, q.la.gvs, t3⟩
/-- the other vault stays -/
theorem VD.other {M1 R1 : Hd} {c' l' : Nat} {Ls' : List (Option Ln)} (h : VD M R v c l m cs Ls) (K : KeepX c' l' Ls' M M1) (hD : Dr M1 R1) (sep : ∀ i, Foot v c l Ls i → ¬ Own c' l' Ls' i) : VD M1 R1 v c l m cs Ls := by
  refine ⟨hD, h.va.frame fun i hi => ?_, h.c2, h.l2, h.t2⟩
  obtain ⟨o, e, h2⟩ := foot_get h hi
  rw [e]
  exact K.at_ i o e h2 (sep i hi)
end
/-! ### two vaults: what the law keeps -/
structure HL (cl : List Nat) (M : Hd) (i : Nat) (o : O) : Prop where
  at_ : M[i]? = some o
  two : 2 ≤ i
  nc : i ∉ cl
  no : ∀ fs, o ≠ .ins "Loan" fs
structure KeepL (cl : List Nat) (M M1 : Hd) : Prop where
  le : M.length ≤ M1.length
  at_ : ∀ i o, M[i]? = some o → 2 ≤ i → i ∉ cl → (∀ fs, o ≠ .ins "Loan" fs) → M1[i]? = some o
section
variable {cl mu : List Nat} {M M1 R : Hd} {i : Nat} {o : O}
theorem HL.keep (h : HL cl M i o) (K : KeepL cl M M1) : HL cl M1 i o := ⟨K.at_ i o h.at_ h.two h.nc h.no, h.two, h.nc, h.no⟩
theorem HL.lt (h : HL cl M i o) : i < M.length := (List.getElem?_eq_some_iff.mp h.at_).1
theorem HL.setx {a : Nat} {o2 : O} (h : HL cl M i o) (hne : i ≠ a) : HL cl (M.set a o2) i o := ⟨by rw [List.getElem?_set_ne (Ne.symm hne)]; exact h.at_, h.two, h.nc, h.no⟩
theorem HL.set {ds : List D} (h : HL cl M i o) : HL cl (M.set i (.lst ds)) i (.lst ds) := ⟨set_get h.at_, h.two, h.nc, lst_no⟩
theorem KeepL.dr {X : Hd} (h : Dr M R) (h1 : Dr M1 (R ++ X)) : KeepL cl M M1 :=
  ⟨by rw [h.len, h1.len, List.length_append]; omega, fun i o e h2 _ _ => h.keepX h1 h2 e⟩
theorem KeepL.trans {M2 : Hd} (h : KeepL cl M M1) (k : KeepL cl M1 M2) : KeepL cl M M2 :=
  ⟨Nat.le_trans h.le k.le, fun i o e h2 hc ho => k.at_ i o (h.at_ i o e h2 hc ho) h2 hc ho⟩
theorem KeepX.toL {v c l : Nat} {m : Int} {cs : List Int} {Ls : List (Option Ln)} (K : KeepX c l Ls M M1) (V : VD M R v c l m cs Ls) (hc : c ∈ cl ∧ l ∈ cl) : KeepL cl M M1 := by
  refine ⟨K.le, fun i o e h2 hi ho => K.at_ i o e h2 ?_⟩
  rintro (rfl | rfl | ⟨j, L, hL, rfl⟩)
  · exact hi hc.1
  · exact hi hc.2
  · have := (V.va.ln j L hL).at_
    rw [e] at this
    cases this
    exact ho _ rfl
theorem HL.new {M0 : Hd} (hcl : ∀ x ∈ cl, x < M0.length) (h2 : 2 ≤ M0.length) (e : M[i]? = some o) (hi : M0.length ≤ i) (ho : ∀ fs, o ≠ .ins "Loan" fs) : HL cl M i o :=
  ⟨e, by omega, fun h => by have := hcl i h; omega, ho⟩
end
/-- a house: what stays, and what goes on -/
structure HP where
  v : Nat
  c : Nat
  l : Nat
  h : Nat
  ms : Nat
  kn : Nat
  m : Int
  cs0 : List Int
structure HX where
  cs : List Int
  Ls : List (Option Ln)
  fw : Int
  bk : Int
  n : Int
def hO (P : HP) (X : HX) : O := .lst [.ref P.v, .ref P.ms, .int X.fw, .int X.bk, .int X.n]
structure Hs (M R : Hd) (cl mu : List Nat) (P : HP) (X : HX) : Prop where
  V : VD M R P.v P.c P.l P.m X.cs X.Ls
  cc : P.c ∈ cl ∧ P.l ∈ cl
  hh : HL cl M P.h (hO P X)
  hm : HL cl M P.ms (.lst (P.cs0.map D.int))
  mm : P.ms ∉ mu
  mh : P.h ∈ mu
  F : Fr mu X.Ls
  un : unAll P.m X.Ls X.cs = P.cs0
  c3 : 3 ≤ P.cs0.length ∧ P.cs0.length ≤ 200
structure KnL (M : Hd) (cl mu : List Nat) (m : Int) (q j0 s0 p0 g0 z s : Nat) (n k : Int) (xs : List Sp_) : Prop where
  q_ : HL cl M q (.lst [.ref j0, .ref z])
  j_ : HL cl M j0 (.lst [.int n, .int k, .ref s0, .ref p0, .ref g0])
  z_ : HL cl M z (progO m n k s)
  s_ : HL cl M s (.lst (xs.map spd))
  ok : PgOk m n k xs 20000
  hn : 1 ≤ n ∧ n ≤ 5
  hk : 0 ≤ k ∧ k ≤ 2
  qm : q ∉ mu
  jm : j0 ∉ mu
  zm : z ∉ mu
  sm : s ∉ mu
structure Kns (M : Hd) (cl mu : List Nat) (kn : Nat) (m : Int) (ks : List Nat) : Prop where
  hk : HL cl M kn (.lst (ks.map D.ref))
  km : kn ∈ mu
  k2 : ks.length ≤ 2
  ka : ∀ q ∈ ks, ∃ j0 s0 p0 g0 z s n k xs, KnL M cl mu m q j0 s0 p0 g0 z s n k xs
structure Two (M R : Hd) (cl mu : List Nat) (ex : List (Nat × O)) (P Q : HP) (X Y : HX) : Prop where
  a : Hs M R cl mu P X
  b : Hs M R cl mu Q Y
  ab : ∀ i, Foot Q.v Q.c Q.l Y.Ls i → ¬ Own P.c P.l X.Ls i
  ba : ∀ i, Foot P.v P.c P.l X.Ls i → ¬ Own Q.c Q.l Y.Ls i
  ka : ∃ ks, Kns M cl mu P.kn P.m ks
  kb : ∃ ks, Kns M cl mu Q.kn Q.m ks
  sm : P.kn = Q.kn → P.m = Q.m
  ne : P.h ≠ Q.h ∧ P.h ≠ P.kn ∧ P.h ≠ Q.kn ∧ Q.h ≠ P.kn ∧ Q.h ≠ Q.kn
  lt : (∀ x ∈ cl, x < M.length) ∧ (∀ x ∈ mu, x < M.length)
  ex_ : ∀ q ∈ ex, HL cl M q.1 q.2 ∧ q.1 ∉ mu
structure Bal (X : HX) : Prop where
  sd : X.fw = X.bk + sdn X.Ls
  n_ : X.n = X.Ls.length
  l6 : X.Ls.length ≤ 6
section
variable {cl mu : List Nat} {ex : List (Nat × O)} {M M1 R : Hd} {P Q : HP} {X Y : HX}
theorem Two.swap (T : Two M R cl mu ex P Q X Y) : Two M R cl mu ex Q P Y X := ⟨T.b, T.a, T.ba, T.ab, T.kb, T.ka, fun e => (T.sm e.symm).symm, ⟨T.ne.1.symm, T.ne.2.2.2.2, T.ne.2.2.2.1, T.ne.2.2.1, T.ne.2.1⟩, T.lt, T.ex_⟩
theorem KnL.keep {m : Int} {q j0 s0 p0 g0 z s : Nat} {n k : Int} {xs : List Sp_} (h : KnL M cl mu m q j0 s0 p0 g0 z s n k xs) (K : KeepL cl M M1) : KnL M1 cl mu m q j0 s0 p0 g0 z s n k xs := ⟨h.q_.keep K, h.j_.keep K, h.z_.keep K, h.s_.keep K, h.ok, h.hn, h.hk, h.qm, h.jm, h.zm, h.sm⟩
theorem KnL.setx {a : Nat} {o : O} {m : Int} {q j0 s0 p0 g0 z s : Nat} {n k : Int} {xs : List Sp_} (h : KnL M cl mu m q j0 s0 p0 g0 z s n k xs) (ha : a ∈ mu) : KnL (M.set a o) cl mu m q j0 s0 p0 g0 z s n k xs := ⟨h.q_.setx (ne_mem h.qm ha), h.j_.setx (ne_mem h.jm ha), h.z_.setx (ne_mem h.zm ha), h.s_.setx (ne_mem h.sm ha), h.ok, h.hn, h.hk, h.qm, h.jm, h.zm, h.sm⟩
theorem Kns.keep {kn : Nat} {m : Int} {ks : List Nat} (h : Kns M cl mu kn m ks) (K : KeepL cl M M1) : Kns M1 cl mu kn m ks := ⟨h.hk.keep K, h.km, h.k2, fun q hq => by
  obtain ⟨j0, s0, p0, g0, z, s, n, k, xs, w⟩ := h.ka q hq
  exact ⟨j0, s0, p0, g0, z, s, n, k, xs, w.keep K⟩⟩
theorem Kns.setx {a kn : Nat} {o : O} {m : Int} {ks : List Nat} (h : Kns M cl mu kn m ks) (ha : a ∈ mu) (hne : kn ≠ a) : Kns (M.set a o) cl mu kn m ks := ⟨h.hk.setx hne, h.km, h.k2, fun q hq => by
  obtain ⟨j0, s0, p0, g0, z, s, n, k, xs, w⟩ := h.ka q hq
  exact ⟨j0, s0, p0, g0, z, s, n, k, xs, w.setx ha⟩⟩
theorem Hs.keepL {R1 : Hd} (h : Hs M R cl mu P X) (K : KeepL cl M M1) {cs : List Int} {Ls : List (Option Ln)} (V : VD M1 R1 P.v P.c P.l P.m cs Ls) (F : Fr mu Ls) (un : unAll P.m Ls cs = P.cs0) : Hs M1 R1 cl mu P { X with cs := cs, Ls := Ls } := ⟨V, h.cc, h.hh.keep K, h.hm.keep K, h.mm, h.mh, F, un, h.c3⟩
theorem Two.ext {Z : Hd} (T : Two M R cl mu ex P Q X Y) (hD : Dr M1 (R ++ Z)) : Two M1 (R ++ Z) cl mu ex P Q X Y := by
  have K : KeepL cl M M1 := KeepL.dr T.a.V.dr hD
  obtain ⟨ks, ka⟩ := T.ka
  obtain ⟨ks2, kb⟩ := T.kb
  exact ⟨T.a.keepL K (T.a.V.ext hD) T.a.F T.a.un, T.b.keepL K (T.b.V.ext hD) T.b.F T.b.un, T.ab, T.ba, ⟨ks, ka.keep K⟩, ⟨ks2, kb.keep K⟩, T.sm, T.ne, ⟨fun x hx => Nat.lt_of_lt_of_le (T.lt.1 x hx) K.le, fun x hx => Nat.lt_of_lt_of_le (T.lt.2 x hx) K.le⟩, fun q hq => ⟨(T.ex_ q hq).1.keep K, (T.ex_ q hq).2⟩⟩
theorem Two.app (T : Two M R cl mu ex P Q X Y) (Z : Hd) : Two (M ++ Z) (R ++ Z) cl mu ex P Q X Y := T.ext (T.a.V.dr.app Z)
theorem Two.kl {Z : Hd} (T : Two M R cl mu ex P Q X Y) (hD : Dr M1 (R ++ Z)) : KeepL cl M M1 := KeepL.dr T.a.V.dr hD
theorem own_foot {v c l : Nat} {Ls : List (Option Ln)} {i : Nat} (h : Own c l Ls i) : Foot v c l Ls i := by
  rcases h with h | h | ⟨j, L, hL, h⟩
  · exact .inr (.inl h)
  · exact .inr (.inr (.inl h))
  · exact .inr (.inr (.inr ⟨j, L, hL, .inl h⟩))
/-- what the first house's vault does -/
theorem Two.vault {R1 : Hd} (T : Two M R cl mu ex P Q X Y) {cs : List Int} {Ls : List (Option Ln)} (V : VD M1 R1 P.v P.c P.l P.m cs Ls) (K : KeepX P.c P.l X.Ls M M1) (F : Fr mu Ls) (un : unAll P.m Ls cs = P.cs0) (own : ∀ i, Own P.c P.l Ls i → Own P.c P.l X.Ls i ∨ M.length ≤ i) (foot : ∀ i, Foot P.v P.c P.l Ls i → Foot P.v P.c P.l X.Ls i ∨ M.length ≤ i ∨ ∃ o, HL cl M i o) : Two M1 R1 cl mu ex P Q { X with cs := cs, Ls := Ls } Y := by
  have KL := K.toL T.a.V T.a.cc
  obtain ⟨ks, ka⟩ := T.ka
  obtain ⟨ks2, kb⟩ := T.kb
  have lo : ∀ {i}, Foot Q.v Q.c Q.l Y.Ls i → i < M.length := fun hi => by
    obtain ⟨o, e, _⟩ := foot_get T.b.V hi
    exact (List.getElem?_eq_some_iff.mp e).1
  refine ⟨T.a.keepL KL V F un, T.b.keepL KL (T.b.V.other K V.dr T.ab) T.b.F T.b.un, fun i hf ho => ?_, fun i hf ho => ?_, ⟨ks, ka.keep KL⟩, ⟨ks2, kb.keep KL⟩, T.sm, T.ne, ⟨fun x hx => Nat.lt_of_lt_of_le (T.lt.1 x hx) KL.le, fun x hx => Nat.lt_of_lt_of_le (T.lt.2 x hx) KL.le⟩, fun q hq => ⟨(T.ex_ q hq).1.keep KL, (T.ex_ q hq).2⟩⟩
  · rcases own i ho with h | h
    · exact T.ab i hf h
    · have := lo hf
      omega
  · rcases foot i hf with h | h | ⟨o, h⟩
    · exact T.ba i h ho
    · have := lo (own_foot ho)
      omega
    · rcases ho with rfl | rfl | ⟨j, L, hL, rfl⟩
      · exact h.nc T.b.cc.1
      · exact h.nc T.b.cc.2
      · have e := (T.b.V.va.ln j L hL).at_
        rw [h.at_] at e
        cases e
        exact h.no _ rfl
theorem VD.setL {v c l a : Nat} {m : Int} {cs : List Int} {Ls : List (Option Ln)} {ds ds' : List D} (V : VD M R v c l m cs Ls) (F : Fr mu Ls) (ha : a ∈ mu) (hc : c ∈ cl ∧ l ∈ cl) (h : HL cl M a (.lst ds)) : VD (M.set a (.lst ds')) (R.set (a - 2) (.lst ds')) v c l m cs Ls :=
  V.setx h.two (foot_out V h.at_ (ne_mem h.nc hc.1) (ne_mem h.nc hc.2) fun j L e => ⟨(ne_mem (F j L e).1 ha).symm, (ne_mem (F j L e).2.1 ha).symm, (ne_mem (F j L e).2.2 ha).symm⟩) _
/-- the house's numbers are others -/
theorem Two.seth (T : Two M R cl mu ex P Q X Y) (fw bk n : Int) : Two (M.set P.h (.lst [.ref P.v, .ref P.ms, .int fw, .int bk, .int n])) (R.set (P.h - 2) (.lst [.ref P.v, .ref P.ms, .int fw, .int bk, .int n])) cl mu ex P Q { X with fw := fw, bk := bk, n := n } Y := by
  obtain ⟨ks, ka⟩ := T.ka
  obtain ⟨ks2, kb⟩ := T.kb
  have hmu := T.a.mh
  have hh : HL cl M P.h (.lst [.ref P.v, .ref P.ms, .int X.fw, .int X.bk, .int X.n]) := T.a.hh
  obtain ⟨n1, n2, n3, n4, n5⟩ := T.ne
  refine ⟨⟨T.a.V.setL T.a.F hmu T.a.cc hh, T.a.cc, hh.set, T.a.hm.setx (ne_mem T.a.mm hmu), T.a.mm, T.a.mh, T.a.F, T.a.un, T.a.c3⟩, ⟨T.b.V.setL T.b.F hmu T.b.cc hh, T.b.cc, T.b.hh.setx n1.symm, T.b.hm.setx (ne_mem T.b.mm hmu), T.b.mm, T.b.mh, T.b.F, T.b.un, T.b.c3⟩, T.ab, T.ba, ⟨ks, ka.setx hmu n2.symm⟩, ⟨ks2, kb.setx hmu n3.symm⟩, T.sm, T.ne, ⟨fun x hx => ?_, fun x hx => ?_⟩, fun q hq => ⟨(T.ex_ q hq).1.setx (ne_mem (T.ex_ q hq).2 hmu), (T.ex_ q hq).2⟩⟩
  · rw [List.length_set]
    exact T.lt.1 x hx
  · rw [List.length_set]
    exact T.lt.2 x hx
/-- one more program is known to the first house -/
theorem Two.setk (T : Two M R cl mu ex P Q X Y) {ks : List Nat} (hk : Kns M cl mu P.kn P.m ks) (hk1 : ks.length ≤ 1) {q j0 s0 p0 g0 z s : Nat} {n k : Int} {xs : List Sp_} (w : KnL M cl mu P.m q j0 s0 p0 g0 z s n k xs) : Two (M.set P.kn (.lst (ks.map D.ref ++ [.ref q]))) (R.set (P.kn - 2) (.lst (ks.map D.ref ++ [.ref q]))) cl mu ex P Q X Y ∧ Kns (M.set P.kn (.lst (ks.map D.ref ++ [.ref q]))) cl mu P.kn P.m (ks ++ [q]) := by
  obtain ⟨ks2, kb⟩ := T.kb
  have hmu := hk.km
  obtain ⟨n1, n2, n3, n4, n5⟩ := T.ne
  have e : ks.map D.ref ++ [.ref q] = (ks ++ [q]).map D.ref := by rw [List.map_append]; rfl
  have new : Kns (M.set P.kn (.lst (ks.map D.ref ++ [.ref q]))) cl mu P.kn P.m (ks ++ [q]) := by
    refine ⟨by rw [e]; exact hk.hk.set, hmu, by simp; omega, fun q' hq => ?_⟩
    rcases List.mem_append.mp hq with hq | hq
    · obtain ⟨j0, s0, p0, g0, z, s, n, k, xs, w⟩ := hk.ka q' hq
      exact ⟨j0, s0, p0, g0, z, s, n, k, xs, w.setx hmu⟩
    · simp at hq
      subst hq
      exact ⟨j0, s0, p0, g0, z, s, n, k, xs, w.setx hmu⟩
  refine ⟨⟨⟨T.a.V.setL T.a.F hmu T.a.cc hk.hk, T.a.cc, T.a.hh.setx n2, T.a.hm.setx (ne_mem T.a.mm hmu), T.a.mm, T.a.mh, T.a.F, T.a.un, T.a.c3⟩, ⟨T.b.V.setL T.b.F hmu T.b.cc hk.hk, T.b.cc, T.b.hh.setx n4, T.b.hm.setx (ne_mem T.b.mm hmu), T.b.mm, T.b.mh, T.b.F, T.b.un, T.b.c3⟩, T.ab, T.ba, ⟨_, new⟩, ?_, T.sm, T.ne, ⟨fun x hx => ?_, fun x hx => ?_⟩, fun q hq => ⟨(T.ex_ q hq).1.setx (ne_mem (T.ex_ q hq).2 hmu), (T.ex_ q hq).2⟩⟩, new⟩
  · by_cases hq : Q.kn = P.kn
    · rw [hq, ← T.sm hq.symm]
      exact ⟨_, new⟩
    · exact ⟨ks2, kb.setx hmu hq⟩
  · rw [List.length_set]
    exact T.lt.1 x hx
  · rw [List.length_set]
    exact T.lt.2 x hx
end
/-! ### two vaults: a call -/
/-- the loans of before, some closed or further on -/
def SubL (Ls' Ls : List (Option Ln)) : Prop := ∀ (j : Nat) L', Ls'[j]? = some (some L') → ∃ L, Ls[j]? = some (some L) ∧ L'.a = L.a ∧ L'.p = L.p ∧ L'.s = L.s ∧ L'.plr = L.plr ∧ L'.gvr = L.gvr
theorem SubL.refl (Ls : List (Option Ln)) : SubL Ls Ls := fun _ L' h => ⟨L', h, rfl, rfl, rfl, rfl, rfl⟩
theorem SubL.set {Ls : List (Option Ln)} {t : Nat} {L : Ln} {o : Option Ln} (hL : Ls[t]? = some (some L)) (ho : ∀ L', o = some L' → L'.a = L.a ∧ L'.p = L.p ∧ L'.s = L.s ∧ L'.plr = L.plr ∧ L'.gvr = L.gvr) : SubL (Ls.set t o) Ls := fun j L' e => by
  rcases set_at e with ⟨rfl, e5⟩ | ⟨_, e5⟩
  · exact ⟨L, hL, ho L' e5.symm⟩
  · exact ⟨L', e5, rfl, rfl, rfl, rfl, rfl⟩
theorem SubL.fr {mu : List Nat} {Ls' Ls : List (Option Ln)} (h : SubL Ls' Ls) (F : Fr mu Ls) : Fr mu Ls' := fun j L' e => by
  obtain ⟨L, e2, h1, h2, h3, h4, h5⟩ := h j L' e
  rw [h3, h4, h5]
  exact F j L e2
theorem SubL.own {c l : Nat} {Ls' Ls : List (Option Ln)} (h : SubL Ls' Ls) {i : Nat} (ho : Own c l Ls' i) : Own c l Ls i := by
  rcases ho with e | e | ⟨j, L', e, hi⟩
  · exact .inl e
  · exact .inr (.inl e)
  · obtain ⟨L, e2, h1, _⟩ := h j L' e
    exact .inr (.inr ⟨j, L, e2, hi.trans h1⟩)
theorem SubL.foot {v c l : Nat} {Ls' Ls : List (Option Ln)} (h : SubL Ls' Ls) {i : Nat} (ho : Foot v c l Ls' i) : Foot v c l Ls i := by
  rcases ho with e | e | e | ⟨j, L', e, hi⟩
  · exact .inl e
  · exact .inr (.inl e)
  · exact .inr (.inr (.inl e))
  · obtain ⟨L, e2, h1, h2, h3, h4, h5⟩ := h j L' e
    rw [h1, h2, h3, h4, h5] at hi
    exact .inr (.inr (.inr ⟨j, L, e2, hi⟩))
section
variable {M R : Hd} {v c l : Nat} {m : Int} {cs : List Int} {Ls : List (Option Ln)}
theorem VD.kx (V : VD M R v c l m cs Ls) (Z : Hd) : KeepX c l Ls M (M ++ Z) := ⟨by simp, fun i o e _ _ => get_old e⟩
theorem called2_ok (V : VD M R v c l m cs Ls) {t : Nat} {L : Ln} (hL : Ls[t]? = some (some L)) {most pick : Int} (hmo : 0 ≤ most) :
    Wp (m__law_called [.ref v, .int pick, .int t, .int most] M) (okQ fun d M1 => ∃ (mv : Int) (R1 : Hd) (cs' : List Int) (Ls' : List (Option Ln)), d = .int mv ∧ VD M1 R1 v c l m cs' Ls' ∧ KeepX c l Ls M M1 ∧ unAll m Ls' cs' = unAll m Ls cs ∧ SubL Ls' Ls ∧ sdn Ls' = sdn Ls + mv ∧ Ls'.length = Ls.length) := by
  have tb : tblOf [("BrimfulError", false), ("BadStep", false), ("BadMemory", false), ("Busy", true), ("BadTicket", false)] "Busy" = some true := by decide +kernel
  refine wp_mir rfl ?_
  unfold g__law_called
  have hst : startD N__law_called.length [.ref v, .int pick, .int t, .int most] = [some (.ref v), some (.int pick), some (.int t), some (.int most)] := rfl
  rw [hst, wp_seq]
  refine wp_tryN ?_
  have same : ∀ Z, ∃ (mv : Int) (R1 : Hd) (cs' : List Int) (Ls' : List (Option Ln)), D.int 0 = .int mv ∧ VD (M ++ Z) R1 v c l m cs' Ls' ∧ KeepX c l Ls M (M ++ Z) ∧ unAll m Ls' cs' = unAll m Ls cs ∧ SubL Ls' Ls ∧ sdn Ls' = sdn Ls + mv ∧ Ls'.length = Ls.length := fun Z => ⟨0, _, cs, Ls, rfl, V.app Z, V.kx Z, rfl, SubL.refl _, by omega, rfl⟩
  have bz : ∀ Z, trQ (tblOf [("BrimfulError", false), ("BadStep", false), ("BadMemory", false), ("Busy", true), ("BadTicket", false)]) (fun dn => (sRet (eC (.int 0)))) (nxQ (sRet (eC (.int 0))) (fnQ (okQ fun d M1 => ∃ (mv : Int) (R1 : Hd) (cs' : List Int) (Ls' : List (Option Ln)), d = .int mv ∧ VD M1 R1 v c l m cs' Ls' ∧ KeepX c l Ls M M1 ∧ unAll m Ls' cs' = unAll m Ls cs ∧ SubL Ls' Ls ∧ sdn Ls' = sdn Ls + mv ∧ Ls'.length = Ls.length))) (.xx "Busy" [some (.ref v), some (.int pick), some (.int t), some (.int most)], M ++ Z) := fun Z => by
    rw [trQ_xx]
    refine ⟨tb, ?_⟩
    walk_at "ds"
    rw [suQ_rt]
    walk_at "ds"
    exact same Z
  obtain ⟨b1, b2, b3⟩ : _ ∧ _ ∧ _ := ⟨fun hb => (busy V.va hL hb).1 most hmo, fun hb => (busy V.va hL hb).2.1, fun hb => (busy V.va hL hb).2.2⟩
  by_cases h4 : pick < 4
  · walk_at "di"
    rw [if_pos h4]
    rw [vmeth_go (v := v) rfl V.va.vv (by decide +kernel) (by decide +kernel) (by decide +kernel) (ds := [.int t, .int most]) rfl]
    cases hb : blk Ls t L with
    | true =>
      refine (b1 hb).imp ?_
      rintro _ ⟨Z, rfl⟩
      exact bz Z
    | false =>
      refine (V.advanceX hL hb hmo).ok ?_
      rintro _ M1 ⟨rfl, R1, V1, K1⟩
      dsimp only
      rw [trQ_rt]
      walk_at "ds"
      refine ⟨_, R1, _, _, rfl, V1, K1, V.va.un_adv hL hb _, SubL.set hL (fun L' e => by cases e; exact ⟨rfl, rfl, rfl, rfl, rfl⟩), ?_, by rw [List.length_set]⟩
      rw [sdn_set hL]
      show sdn Ls - (L.dn : Int) + ((L.dn + _ : Nat) : Int) = _
      rw [Int.natCast_add]
      omega
  · by_cases h5 : pick = 4
    · walk_at "di"
      rw [if_neg h4, if_pos h5]
      rw [vmeth_go (v := v) rfl V.va.vv (by decide +kernel) (by decide +kernel) (by decide +kernel) (ds := [.int t]) rfl]
      cases hb : blk Ls t L with
      | true =>
        refine (b2 hb).imp ?_
        rintro _ ⟨Z, rfl⟩
        exact bz Z
      | false =>
        refine (answer_okV V.va hL hb).imp ?_
        rintro _ ⟨Z, rfl⟩
        by_cases hd : L.dn < L.xs.length
        · rw [if_pos hd]
          exact bz Z
        · rw [if_neg hd]
          dsimp only
          rw [trQ_nx]
          walk_at "ds"
          exact same Z
    · walk_at "di"
      rw [if_neg h4, if_neg h5]
      rw [vmeth_go (v := v) rfl V.va.vv (by decide +kernel) (by decide +kernel) (by decide +kernel) (ds := [.int t]) rfl]
      cases hb : blk Ls t L with
      | true =>
        refine (b3 hb).imp ?_
        rintro _ ⟨Z, rfl⟩
        exact bz Z
      | false =>
        refine (V.recallX hL hb).ok ?_
        rintro _ M1 ⟨rfl, R1, V1, K1⟩
        walk_at "ds"
        rw [trQ_rt]
        walk_at "ds"
        refine ⟨_, R1, _, _, rfl, V1, K1, V.va.un_rec hL hb, SubL.set hL (fun L' e => by cases e), ?_, by rw [List.length_set]⟩
        rw [sdn_set hL]
        show sdn Ls - (L.dn : Int) + 0 = _
        omega
theorem openT_mem {x : Int} (h : x ∈ openT Ls) : ∃ (t : Nat) (L : Ln), x = t ∧ Ls[t]? = some (some L) := by
  unfold openT at h
  obtain ⟨q, hq, rfl⟩ := List.mem_map.mp h
  obtain ⟨h1, h2⟩ := List.mem_filter.mp hq
  obtain ⟨o, i⟩ := q
  have hi := List.mem_zipIdx_iff_getElem?.mp h1
  cases o with
  | none => cases h2
  | some L => exact ⟨i, L, rfl, hi⟩
theorem openT_len2 (Ls : List (Option Ln)) : (openT Ls).length ≤ Ls.length := by
  unfold openT
  rw [List.length_map]
  refine Nat.le_trans (List.length_filter_le _ _) ?_
  rw [List.length_zipIdx]
  exact Nat.le_refl _
end
/-! ### two vaults: a move -/
theorem wp_ifE {t : TF} {f g : SF} {r : Ev} {M : Hd} {Q : Fl × Hd → Prop} (h : Wp (t r M) fun o => match o with
    | .ok b M1 => Wp (if b = true then f r M1 else g r M1) Q
    | .er c M1 => Q (.xx c r, M1)) : Wp (sIf t f g r M) Q := by
  unfold sIf
  rw [wp_exB]
  refine h.imp fun o ho => ?_
  cases o <;> exact ho
theorem prog_app {m n k z : Int} {xs : List Sp_} {g : AF} {r : Ev} {M : Hd} {P : Rs D → Prop} (ok : PgOk m n k xs z) (hz : z ≤ 20000) (hg : g r M = some (.ok [.int m, .int n, .int k, .ref M.length] (M ++ [.lst (xs.map spd)])))
    (hP : ∀ X z s, M.length ≤ z → M.length ≤ s → (M ++ X)[z]? = some (progO m n k s) → (M ++ X)[s]? = some (.lst (xs.map spd)) → P (.ok (.ref z) (M ++ X))) : Wp (eMake "Program" m_Program___init__ g r M) P := by
  refine make_go ok hz hg get_here ?_
  have hat := make_at (M1 := M ++ [O.lst (xs.map spd)]) (m := m) (n := n) (k := k) (xs := xs)
  have h1 := hat.at_
  have h2 := hat.st
  rw [List.append_assoc] at h1 h2 ⊢
  exact hP _ _ ((M ++ [O.lst (xs.map spd)]).length + 1) (by simp) (by simp; omega) h1 h2
section
variable {cl mu : List Nat} {ex : List (Nat × O)} {M R : Hd} {P Q : HP} {X Y : HX}
theorem Two.lend (T : Two M R cl mu ex P Q X Y) {n k : Int} {xs : List Sp_} {pl gs : List Int} {j0 s0 p0 g0 z s q qk u : Nat} (w : KnL M cl mu P.m qk j0 s0 p0 g0 z s n k xs) (hq : M[q]? = some (O.lst (pl.map D.int))) (hu : M[u]? = some (O.lst (gs.map D.int))) (hpn : (pl.length : Int) = n) (hp : ∀ p ∈ pl, 0 ≤ p ∧ p < X.cs.length) (hnd : pl.Nodup) (hgk : (gs.length : Int) = k) (hg : ∀ x ∈ gs, 0 ≤ x ∧ x < P.m) (hlL : X.Ls.length < 6) :
    Wp (m_Vault_lend [.ref P.v, .ref z, .ref q, .ref u] M) (okQ fun _ M1 => ∃ R1 L, Two M1 R1 cl mu ex P Q { X with Ls := X.Ls ++ [some L] } Y ∧ sdn (X.Ls ++ [some L]) = sdn X.Ls) := by
  have hz : Hold P.c P.l M z (progO P.m n k s) := ⟨w.z_.at_, w.z_.two, ne_mem w.z_.nc T.a.cc.1, ne_mem w.z_.nc T.a.cc.2, w.z_.no⟩
  have hs : Hold P.c P.l M s (.lst (xs.map spd)) := ⟨w.s_.at_, w.s_.two, ne_mem w.s_.nc T.a.cc.1, ne_mem w.s_.nc T.a.cc.2, w.s_.no⟩
  refine (T.a.V.lendX ⟨hz, hs⟩ hq hu w.ok hpn hp hnd hgk hg (by omega)).ok ?_
  rintro _ M1 ⟨_, R1, V1, K1⟩
  obtain ⟨L, hL⟩ : ∃ L, L = newLn M n k xs pl gs X.cs z s := ⟨_, rfl⟩
  have f1 : L.a = M.length + 2 ∧ L.p = z ∧ L.s = s ∧ L.plr = M.length ∧ L.gvr = M.length + 1 ∧ L.dn = 0 := by
    rw [hL]
    exact ⟨rfl, rfl, rfl, rfl, rfl, rfl⟩
  rw [← hL] at V1
  obtain ⟨fa, fp, fs, fpl, fgv, fd⟩ := f1
  have key : ∀ {j : Nat} {L'}, (X.Ls ++ [some L])[j]? = some (some L') → X.Ls[j]? = some (some L') ∨ L' = L := fun {j L'} e => by
    rw [List.getElem?_append] at e
    split at e
    · exact .inl e
    · rename_i hj
      have := (List.getElem?_eq_some_iff.mp e).1
      have hj0 : j - X.Ls.length = 0 := by simp at this; omega
      rw [hj0] at e
      cases e
      exact .inr rfl
  have nm : ∀ i, M.length ≤ i → i ∉ mu := fun i hi h => by
    have := T.lt.2 i h
    omega
  refine ⟨R1, L, T.vault (cs := X.cs) (Ls := X.Ls ++ [some L]) V1 K1 (fun j L' e => ?_) ?_ (fun i ho => ?_) (fun i ho => ?_), ?_⟩
  · rcases key e with e | rfl
    · exact T.a.F j L' e
    · exact ⟨by rw [fs]; exact w.sm, nm _ (by omega), nm _ (by omega)⟩
  · rw [unAll_app]
    show unAll P.m X.Ls (opsS P.m L.gs L.pl X.cs (backS P.m (L.xs.take L.dn))) = _
    rw [fd]
    exact T.a.un
  · rcases ho with e | e | ⟨j, L', e, hi⟩
    · exact .inl (.inl e)
    · exact .inl (.inr (.inl e))
    · rcases key e with e | rfl
      · exact .inl (.inr (.inr ⟨j, L', e, hi⟩))
      · exact .inr (by omega)
  · rcases ho with e | e | e | ⟨j, L', e, hi⟩
    · exact .inl (.inl e)
    · exact .inl (.inr (.inl e))
    · exact .inl (.inr (.inr (.inl e)))
    · rcases key e with e | rfl
      · exact .inl (.inr (.inr (.inr ⟨j, L', e, hi⟩)))
      · rcases hi with rfl | rfl | rfl | rfl | rfl
        · exact .inr (.inl (by omega))
        · exact .inr (.inr ⟨_, by rw [fp]; exact w.z_⟩)
        · exact .inr (.inr ⟨_, by rw [fs]; exact w.s_⟩)
        · exact .inr (.inl (by omega))
        · exact .inr (.inl (by omega))
  · rw [sdn_app]
    show sdn X.Ls + (L.dn : Int) + 0 = _
    rw [fd]
    simp
theorem move_ok (T : Two M R cl mu ex P Q X Y) (B0 : Bal X) : Wp (m__law_move [.ref 1, .ref P.h, .int P.m, .ref P.kn] M) (okQ fun _ M1 => ∃ R1 X', Two M1 R1 cl mu ex P Q X' Y ∧ Bal X') := by
  have hm := T.a.V.va.hm
  have hlc : X.cs.length = P.cs0.length := by rw [← T.a.un, unAll_len]
  have c3 := T.a.c3
  have hh := T.a.hh.at_
  unfold hO at hh
  have h2M : 2 ≤ M.length := by have := T.a.V.dr.len; omega
  have i4 : ∀ x y : Int, ∀ z : Int, atI [D.ref P.v, .ref P.ms, .int x, .int y, .int z] 4 = some (.int z) := fun x y z => rfl
  refine wp_mir rfl ?_
  unfold g__law_move
  walk_at "ds"
  rw [hh]
  walk_at "ds"
  rw [vmeth_go (v := P.v) rfl T.a.V.va.vv (by decide +kernel) (by decide +kernel) (by decide +kernel) (ds := []) rfl]
  refine (vopen_ok T.a.V.va).ok ?_
  rintro _ _ ⟨rfl, Z, rfl⟩
  walk_at "ds"
  rw [get_old hh]
  walk_at "ds"
  rw [get_old T.a.hm.at_]
  walk_at "ds"
  rw [List.length_map]
  have g5 : (M ++ O.lst ((openT X.Ls).map D.int) :: Z)[M.length]? = some (O.lst ((openT X.Ls).map D.int)) := get_here
  have H5 := HL.new T.lt.1 h2M g5 (Nat.le_refl _) lst_no
  have hh5 := get_old (Z := O.lst ((openT X.Ls).map D.int) :: Z) hh
  have T := T.app (O.lst ((openT X.Ls).map D.int) :: Z)
  clear g5 hh
  generalize M.length = q5 at H5 ⊢
  generalize M ++ O.lst ((openT X.Ls).map D.int) :: Z = M1 at T H5 hh5 ⊢
  generalize R ++ O.lst ((openT X.Ls).map D.int) :: Z = R1 at T
  generalize hS : (if (P.cs0.length : Int) < 8 then (P.cs0.length : Int) else 8) = S6
  have hS6 : 3 ≤ S6 ∧ S6 ≤ 8 ∧ S6 ≤ P.cs0.length := by
    subst hS
    split <;> omega
  have ho5 := openT_len2 X.Ls
  have l6 := B0.l6
  have n_ := B0.n_
  refine wp_ifE ?_
  refine Wp.imp (Q := okQ fun b M2 => ∃ W, Dr M2 (R1 ++ W) ∧ (b = true → X.n < 6)) ?_ ?_
  · walk_at "ds"
    rw [hh5]
    walk_at "ds"
    rw [i4]
    walk_at "ds"
    by_cases h5 : X.n < 6
    · rw [if_pos h5]
      walk_at "ds"
      rw [H5.at_]
      walk_at "ds"
      rw [List.length_map]
      by_cases h0 : ((openT X.Ls).length : Int) = 0
      · rw [if_pos h0]
        exact ⟨[], by rw [List.append_nil]; exact T.a.V.dr, fun _ => h5⟩
      · rw [if_neg h0]
        walk_at "ds"
        refine (draw_ok T.a.V.dr).ok ?_
        rintro _ M2 ⟨b, rfl, _, _, hD⟩
        walk_at "ds"
        exact ⟨[], by rw [List.append_nil]; exact hD, fun _ => h5⟩
    · rw [if_neg h5]
      walk_at "ds"
      exact ⟨[], by rw [List.append_nil]; exact T.a.V.dr, fun e => by cases e⟩
  rintro o ho
  cases o with
  | er c M2 => exact ho.elim
  | ok b M2 =>
    obtain ⟨W, hD, hb⟩ := ho
    have H5 := H5.keep (T.kl hD)
    have T := T.ext hD
    clear hh5 hD
    generalize R1 ++ W = R2 at T
    cases b with
    | true =>
      have hl := hb rfl
      dsimp only
      rw [if_pos rfl]
      walk_at "ds"
      obtain ⟨ks, kk⟩ := T.ka
      refine Wp.imp (Q := fun o => ∃ M3 R3 ks' a7, o = (Fl.nx [some (.ref 1), some (.ref P.h), some (.int P.m), some (.ref P.kn), some (.ref P.v), some (.ref q5), some (.int S6), a7, none, none, none, none, none], M3) ∧ Two M3 R3 cl mu ex P Q X Y ∧ Kns M3 cl mu P.kn P.m ks' ∧ 1 ≤ ks'.length) ?_ ?_
      · refine wp_if2 (c := ks.length < 2) ?_ (fun hk => ?_) (fun hk => ?_)
        · walk_at "di"
          rw [kk.hk.at_]
          walk_at "di"
          rw [List.length_map]
          exact ⟨_, rfl, by simp; omega⟩
        · walk_at "ds"
          refine (loan_ok T.a.V.dr hm (by omega)).ok ?_
          rintro _ M6 ⟨jj, n, k, xs, pl, gs, s, p, g, X6, rfl, LD, hD6⟩
          have K6 := T.kl hD6
          have h22 : 2 ≤ M2.length := by have := T.a.V.dr.len; omega
          have cl2 := T.lt.1
          have nm2 : ∀ i, M2.length ≤ i → i ∉ mu := fun i hi h => by
            have := T.lt.2 i h
            omega
          have T6 := T.ext hD6
          have kk6 := kk.keep K6
          have Hjj := HL.new cl2 h22 LD.j_ LD.jl lst_no
          have Hs := HL.new cl2 h22 LD.s_ LD.sl lst_no
          have hxo := LD.xo
          have hn := LD.hn
          have hk2 := LD.hk
          have ok : PgOk P.m n k xs 20000 := ⟨hm, by omega, by omega, by have := LD.xl; omega, hxo, ht_of hxo⟩
          have hM6 := K6.le
          walk_at "ds"
          rw [kk6.hk.at_]
          walk_at "ds"
          refine prog_app ok (by decide) ?_ ?_
          · simp only [aCons, aNil, eOp, eUn, eVar, eC, List.getElem?_cons_zero, List.getElem?_cons_succ, bnd_ok]
            rw [ixG_ref Hjj.at_, atI_c0]
            simp only [pr_some, bnd_ok]
            rw [ixG_ref Hjj.at_, atI_c1]
            simp only [pr_some, bnd_ok]
            rw [ixG_ref Hjj.at_, atI_c2]
            simp only [pr_some, bnd_ok]
            rw [listG_ref Hs.at_]
            simp only [bnd_ok]
          · intro X7 z s7 hz hs7 gz gs7
            have hM7 : M2.length ≤ (M6 ++ X7).length := by
              rw [List.length_append]
              omega
            have T8 := (T6.app X7).app [O.lst [.ref jj, .ref z]]
            have K8 : KeepL cl M6 (M6 ++ X7 ++ [O.lst [.ref jj, .ref z]]) := ⟨by simp, fun i o e _ _ _ => get_old (get_old e)⟩
            have gq : (M6 ++ X7 ++ [O.lst [.ref jj, .ref z]])[(M6 ++ X7).length]? = some (O.lst [.ref jj, .ref z]) := get_here
            have w : KnL (M6 ++ X7 ++ [O.lst [.ref jj, .ref z]]) cl mu P.m (M6 ++ X7).length jj s p g z s7 n k xs := ⟨HL.new cl2 h22 gq hM7 lst_no, Hjj.keep K8, HL.new cl2 h22 (get_old gz) (by omega) prog_no, HL.new cl2 h22 (get_old gs7) (by omega) lst_no, ok, by omega, hk2, nm2 _ hM7, nm2 _ LD.jl, nm2 _ (by omega), nm2 _ (by omega)⟩
            have kk8 := kk6.keep K8
            obtain ⟨T9, kk9⟩ := T8.setk kk8 (by omega) w
            have hkn := kk8.hk.at_
            walk_at "ds"
            rw [hkn]
            walk_at "ds"
            rw [if_pos (by rw [List.length_map]; omega)]
            walk_at "ds"
            exact ⟨_, _, _, _, rfl, T9, kk9, by simp⟩
        · walk_at "di"
          exact ⟨M2, R2, ks, none, rfl, T, kk, by omega⟩
      rintro _ ⟨M3, R3, ks, a7, rfl, T, kk, hk1⟩
      rw [nxQ_nx]
      walk_at "ds"
      refine (draw_ok T.a.V.dr).ok ?_
      rintro _ M4 ⟨b1, rfl, _, _, hD⟩
      have kk := kk.keep (T.kl (Z := []) (by rw [List.append_nil]; exact hD))
      have T := T.ext (Z := []) (by rw [List.append_nil]; exact hD)
      clear hD
      walk_at "ds"
      rw [kk.hk.at_]
      walk_at "ds"
      rw [List.length_map, modG_ok (by omega)]
      walk_at "ds"
      have ha := mod_in b1 (show (0 : Int) < ks.length by omega)
      generalize b1 % (ks.length : Int) = i at ha ⊢
      have hi : i.toNat < ks.length := by omega
      rw [kk.hk.at_]
      walk_at "ds"
      rw [show atI (ks.map D.ref) i = some (.ref ks[i.toNat]) from atI_nn (by omega) (by rw [List.getElem?_map, List.getElem?_eq_getElem hi]; rfl)]
      walk_at "ds"
      obtain ⟨j0, s0, p0, g0, z, s, n, k, xs, w⟩ := kk.ka _ (List.getElem_mem hi)
      generalize ks[i.toNat] = qk at w ⊢
      clear ha hi kk H5
      refine wp_if2 (c := n ≤ S6) ?_ (fun hnS => ?_) (fun hnS => ?_)
      · walk_at "di"
        rw [w.q_.at_]
        walk_at "di"
        rw [w.j_.at_]
        walk_at "di"
        exact ⟨_, rfl, by simp⟩
      · have hk := w.hk
        have hn := w.hn
        walk_at "ds"
        refine (wp_numsN (n := k) (di := 0) (mi := 2) (M := M4) (by omega) hm.1 ?_ T.a.V.dr rfl rfl (by decide)).ok ?_
        · simp only [rng1, eOp, eC, eVar, List.getElem?_cons_zero, List.getElem?_cons_succ, bnd_ok]
          rw [ixG_ref w.q_.at_, atI_c0]
          simp only [pr_some, bnd_ok]
          rw [ixG_ref w.j_.at_, atI_c1]
          simp only [pr_some, bnd_ok]
          exact if_sm (by omega)
        rintro _ M5 ⟨gs, Z5, rfl, hgl, hgs, hD5⟩
        have hl4 := T.a.V.dr.len
        have g5 : M5[(R3 ++ []).length + 2]? = some (O.lst (gs.map D.int)) := by
          rw [hD5.get]
          exact get_here
        have Hg := HL.new T.lt.1 (by omega) g5 (by omega) lst_no
        have w := w.keep (T.kl hD5)
        have T := T.ext hD5
        clear g5 hD5 hl4
        generalize (R3 ++ []).length + 2 = qg at Hg ⊢
        generalize R3 ++ [] ++ O.lst (gs.map D.int) :: Z5 = R5 at T
        walk_at "ds"
        obtain ⟨_, M6, e6, pl, qp, X6, rfl, hqp, gp, hpn, hpr, hpnd, hD6⟩ := wp_okE (places_ok T.a.V.dr (N := S6) (n := n) (by omega) (by omega))
        have K6 := T.kl hD6
        have hvv := T.a.V.va.vv
        have eq5 := w.q_.at_
        have ej5 := w.j_.at_
        have Hg := Hg.keep K6
        have w := w.keep K6
        have T := T.ext hD6
        rw [vmeth_go (v := P.v) (M1 := M5) (M2 := M6) rfl hvv (by decide +kernel) (by decide +kernel) (by decide +kernel) (ds := [.ref z, .ref qp, .ref qg]) (by
          simp only [aCons, aNil, eOp, eUn, eVar, eC, eCall, List.getElem?_cons_zero, List.getElem?_cons_succ, bnd_ok]
          rw [ixG_ref eq5, atI_c1]
          simp only [pr_some, bnd_ok]
          rw [ixG_ref eq5, atI_c0]
          simp only [pr_some, bnd_ok]
          rw [ixG_ref ej5, atI_c0]
          simp only [pr_some, bnd_ok]
          rw [e6]
          rfl)]
        refine (T.lend w gp Hg.at_ hpn (fun x hx => by have := hpr x hx; omega) hpnd hgl hgs (by omega)).ok ?_
        rintro _ M7 ⟨R7, L, T, hsd⟩
        have hh7 := T.a.hh.at_
        unfold hO at hh7
        walk_at "ds"
        rw [hh7]
        walk_at "ds"
        rw [i4]
        walk_at "ds"
        rw [hh7]
        walk_at "ds"
        rw [ixN_in (by decide)]
        walk_at "ds"
        exact ⟨_, _, T.seth X.fw X.bk (X.n + 1), ⟨by show X.fw = X.bk + sdn (X.Ls ++ [some L]); rw [hsd]; exact B0.sd, by show X.n + 1 = ((X.Ls ++ [some L]).length : Nat); simp; omega, by show (X.Ls ++ [some L]).length ≤ 6; simp; omega⟩⟩
      · unfold sNil
        rw [wp_some, fnQ_nx]
        exact ⟨_, X, T, B0⟩
    | false =>
      dsimp only
      rw [if_neg (by decide)]
      refine wp_if2 (c := 0 < (openT X.Ls).length) ?_ (fun h0 => ?_) (fun h0 => ?_)
      · walk_at "di"
        rw [H5.at_]
        walk_at "di"
        rw [List.length_map]
        exact ⟨_, rfl, by simp⟩
      · walk_at "ds"
        refine (draw_ok T.a.V.dr).ok ?_
        rintro _ M3 ⟨b1, rfl, _, _, hD⟩
        have H5 := H5.keep (T.kl (Z := []) (by rw [List.append_nil]; exact hD))
        have T := T.ext (Z := []) (by rw [List.append_nil]; exact hD)
        clear hD
        walk_at "ds"
        rw [H5.at_]
        walk_at "ds"
        rw [List.length_map, modG_ok (by omega)]
        walk_at "ds"
        rw [H5.at_]
        obtain ⟨d, hd, he⟩ := atI_any (l := (openT X.Ls).map D.int) (j := b1 % (openT X.Ls).length) (by
          rw [List.length_map]
          have := mod_in b1 (show (0 : Int) < (openT X.Ls).length by omega)
          omega)
        obtain ⟨t1, ht1, rfl⟩ := List.mem_map.mp hd
        obtain ⟨t, L, rfl, hL⟩ := openT_mem ht1
        dsimp only
        rw [he]
        walk_at "ds"
        refine (draw_ok T.a.V.dr).ok ?_
        rintro _ M4 ⟨b2, rfl, _, _, hD⟩
        have T := T.ext (Z := []) (by rw [List.append_nil]; exact hD)
        clear hD
        walk_at "ds"
        refine (draw_ok T.a.V.dr).ok ?_
        rintro _ M5 ⟨b3, rfl, _, _, hD⟩
        have T := T.ext (Z := []) (by rw [List.append_nil]; exact hD)
        clear hD
        walk_at "ds"
        refine (called2_ok T.a.V hL (by omega)).ok ?_
        rintro _ M6 ⟨mv, R6, cs', Ls', rfl, V6, K6, un6, sub6, sd6, len6⟩
        have T := T.vault V6 K6 (sub6.fr T.a.F) (un6.trans T.a.un) (fun i ho => .inl (sub6.own ho)) (fun i ho => .inl (sub6.foot ho))
        have hh6 := T.a.hh.at_
        unfold hO at hh6
        walk_at "ds"
        have hB : ∀ fw bk, fw - bk = X.fw - X.bk + mv → Bal { cs := cs', Ls := Ls', fw := fw, bk := bk, n := X.n } := fun fw bk e => ⟨by show fw = bk + sdn Ls'; have := B0.sd; omega, by show X.n = _; rw [len6]; exact n_, by show Ls'.length ≤ 6; omega⟩
        refine wp_if2 (c := 0 < mv) ?_ (fun hmv => ?_) (fun hmv => ?_)
        · walk_at "di"
          exact ⟨_, rfl, by simp⟩
        · walk_at "ds"
          rw [hh6]
          walk_at "ds"
          rw [hh6]
          walk_at "ds"
          rw [ixN_in (by decide)]
          walk_at "ds"
          exact ⟨_, _, T.seth (X.fw + mv) X.bk X.n, hB _ _ (by omega)⟩
        · walk_at "ds"
          rw [hh6]
          walk_at "ds"
          rw [hh6]
          walk_at "ds"
          rw [ixN_in (by decide)]
          walk_at "ds"
          exact ⟨_, _, T.seth X.fw (X.bk - mv) X.n, hB _ _ (by omega)⟩
      · unfold sNil
        rw [wp_some, fnQ_nx]
        exact ⟨_, X, T, B0⟩
end
/-! ### two vaults: what is given back -/
theorem rep_app {a b : Nat} : List.replicate a (none : Option Ln) ++ List.replicate b none = List.replicate (a + b) none := List.replicate_append_replicate
section
variable {cl mu : List Nat} {ex : List (Nat × O)} {M R : Hd} {P Q : HP} {X Y : HX}
theorem back_ok (T : Two M R cl mu ex P Q X Y) (B0 : Bal X) : Wp (m__law_given_back [.ref P.h] M) (okQ fun d M1 => d = .bl true ∧ ∃ R1 X', Two M1 R1 cl mu ex P Q X' Y) := by
  have hh := T.a.hh.at_
  unfold hO at hh
  refine wp_mir rfl ?_
  unfold g__law_given_back
  walk_at "ds"
  rw [hh]
  walk_at "ds"
  try rw [if_smP (by decide)]
  refine wp_forL (fun i r M => ∃ R X' a2 a3 A k, r = [some (.ref P.h), some (.ref P.v), a2, a3] ∧ Two M R cl mu ex P Q X' Y ∧ X'.fw = X'.bk + sdn X'.Ls ∧ X'.Ls = A ++ List.replicate k none ∧ A.length + i ≤ 6) ?_ ?_ ?_
  · rintro i d r M hd ⟨R, X', a2, a3, A, k, rfl, T, sd, hLs, hA⟩
    obtain ⟨hi, rfl⟩ := ints_get hd
    refine ⟨by simp, _, rfl, ?_⟩
    have h2M : 2 ≤ M.length := by have := T.a.V.dr.len; omega
    walk_at "ds"
    rw [vmeth_go (v := P.v) rfl T.a.V.va.vv (by decide +kernel) (by decide +kernel) (by decide +kernel) (ds := []) rfl]
    refine (vopen_ok T.a.V.va).ok ?_
    rintro _ _ ⟨rfl, Z, rfl⟩
    walk_at "ds"
    have g5 : (M ++ O.lst ((openT X'.Ls).map D.int) :: Z)[M.length]? = some (O.lst ((openT X'.Ls).map D.int)) := get_here
    have T := T.app (O.lst ((openT X'.Ls).map D.int) :: Z)
    generalize M.length = q5 at g5 ⊢
    generalize M ++ O.lst ((openT X'.Ls).map D.int) :: Z = M1 at T g5 ⊢
    generalize R ++ O.lst ((openT X'.Ls).map D.int) :: Z = R1 at T
    rcases top_or A with ⟨k', rfl⟩ | ⟨A', L, k', rfl⟩
    · have e0 : openT X'.Ls = [] := by rw [hLs, rep_app, openT_nones]
      rw [e0] at g5
      refine wp_if2 (c := False) ?_ (fun h => h.elim) (fun _ => ?_)
      · walk_at "di"
        rw [g5]
        walk_at "di"
        exact ⟨_, rfl, by simp⟩
      unfold sNil
      rw [wp_some, lpQ_nx]
      refine ⟨R1, X', _, _, [], k' + k, rfl, T, sd, by rw [hLs, rep_app]; rfl, by simp at hA ⊢; omega⟩
    · have hLs2 : X'.Ls = A' ++ some L :: List.replicate (k' + k) none := by
        rw [hLs, List.append_assoc, List.cons_append, rep_app]
      have e0 : openT X'.Ls = openT A' ++ [(A'.length : Int)] := by rw [hLs2, openT_top]
      rw [e0] at g5
      have hlen : (((openT A' ++ [(A'.length : Int)]).map D.int).length : Int) = (openT A').length + 1 := by simp
      have hL : X'.Ls[A'.length]? = some (some L) := by rw [hLs2]; exact top_get
      have hb : blk X'.Ls A'.length L = false := by rw [hLs2]; exact blk_top
      refine wp_if2 (c := True) ?_ (fun _ => ?_) (fun h => absurd trivial h)
      · walk_at "di"
        rw [g5]
        walk_at "di"
        exact ⟨_, rfl, by rw [hlen]; simp⟩
      have hh1 := T.a.hh.at_
      unfold hO at hh1
      obtain ⟨_, M2, e2, rfl, R2, V2, K2⟩ := wp_okE (T.a.V.recallX hL hb)
      have hat : atI ((openT A' ++ [(A'.length : Int)]).map D.int) (((openT A').length : Int) + 1 - 1) = some (.int A'.length) := by
        rw [show ((openT A').length : Int) + 1 - 1 = ((openT A').length : Nat) by omega]
        refine L2.atI_nat ?_
        rw [List.map_append, show (openT A').length = ((openT A').map D.int).length by rw [List.length_map]]
        simp
      walk_at "ds"
      rw [hh1]
      walk_at "ds"
      rw [vmeth_go (v := P.v) (M1 := M1) (M2 := M1) rfl T.a.V.va.vv (by decide +kernel) (by decide +kernel) (by decide +kernel) (ds := [.int A'.length]) (by
        simp only [aCons, aNil, eOp, eUn, eVar, eC, List.getElem?_cons_zero, List.getElem?_cons_succ, bnd_ok]
        rw [lenD_ref g5]
        simp only [bnd_ok]
        rw [hlen]
        simp only [subG_int, bnd_ok]
        rw [ixG_ref g5, hat]
        rfl), e2]
      have T := T.vault V2 K2 ((SubL.set hL (fun L' e => by cases e)).fr T.a.F) ((T.a.V.va.un_rec hL hb).trans T.a.un) (fun i ho => .inl ((SubL.set hL (fun L' e => by cases e)).own ho)) (fun i ho => .inl ((SubL.set hL (fun L' e => by cases e)).foot ho))
      have hh2 := T.a.hh.at_
      unfold hO at hh2
      walk_at "ds"
      rw [hh2]
      walk_at "ds"
      rw [ixN_in (by decide)]
      walk_at "ds"
      refine ⟨_, _, _, _, A', k' + k + 1, rfl, T.seth X'.fw (X'.bk + L.dn) X'.n, ?_, ?_, ?_⟩
      · show X'.fw = X'.bk + L.dn + sdn (X'.Ls.set A'.length none)
        rw [sdn_set hL]
        show X'.fw = X'.bk + L.dn + (sdn X'.Ls - L.dn + 0)
        omega
      · show X'.Ls.set A'.length none = _
        rw [hLs2, top_set, List.replicate_succ]
      · simp at hA
        omega
  · rintro r M ⟨R, X', a2, a3, A, k, rfl, T, sd, hLs, hA⟩
    rw [ints_length] at hA
    refine ⟨by simp, ?_⟩
    have eA : A = [] := List.length_eq_zero_iff.mp (by
      have : ((6 : Int)).toNat = 6 := rfl
      omega)
    subst eA
    rw [List.nil_append] at hLs
    have hcs : X'.cs = P.cs0 := by
      have := T.a.un
      rw [hLs, unAll_none] at this
      exact this
    rw [hLs, sdn_none] at sd
    have c3 := T.a.c3
    have e0 : openT X'.Ls = [] := by rw [hLs, openT_nones]
    have hh1 := T.a.hh.at_
    unfold hO at hh1
    walk_at "ds"
    refine Wp.imp (Q := fun o => ∃ Z, o = (Fl.nx [some (.ref P.h), some (.ref P.v), a2, a3], M ++ Z)) ?_ ?_
    · refine wp_ifE ?_
      walk_at "ds"
      rw [vmeth_go (v := P.v) rfl T.a.V.va.vv (by decide +kernel) (by decide +kernel) (by decide +kernel) (ds := []) rfl]
      refine (vopen_ok T.a.V.va).ok ?_
      rintro _ _ ⟨rfl, Z, rfl⟩
      rw [e0]
      walk_at "ds"
      refine (equal_ints (bs := []) (get_old get_here) get_here (by decide)).ok ?_
      rintro _ _ ⟨rfl, rfl⟩
      walk_at "ds"
      have T1 := (T.app (O.lst [] :: Z)).app [O.lst []]
      rw [prp_go (i := P.v) rfl T1.a.V.va.vv (vmemory_ok T1.a.V.va)]
      walk_at "ds"
      have hh2 := T1.a.hh.at_
      unfold hO at hh2
      rw [get_old hh2]
      walk_at "ds"
      rw [hcs]
      refine (equal_ints get_here (get_old T1.a.hm.at_) (by omega)).ok ?_
      rintro _ _ ⟨rfl, rfl⟩
      walk_at "ds"
      exact ⟨O.lst [] :: Z ++ [O.lst []] ++ [O.lst (P.cs0.map D.int)], by simp⟩
    rintro _ ⟨Z, rfl⟩
    rw [nxQ_nx]
    walk_at "ds"
    rw [get_old hh1]
    walk_at "ds"
    rw [get_old hh1]
    walk_at "ds"
    rw [sd, Int.add_zero]
    refine (equal_int (i := X'.bk)).ok ?_
    rintro _ M' ⟨eM', rfl⟩
    rw [eM']
    walk_at "ds"
    exact ⟨_, X', T.app Z⟩
  · exact ⟨R, X, none, none, X.Ls, 0, rfl, T, B0.sd, by simp, B0.l6⟩
end
/-! ### two vaults: how they are made -/
theorem vault_app {M R : Hd} {m : Int} {cs : List Int} (hD : Dr M R) {q : Nat} {g : AF} {r : Ev} {M0 : Hd} {P : Rs D → Prop} (hm : 2 ≤ m ∧ m ≤ 1000000000) (hq : M[q]? = some (O.lst (cs.map D.int))) (hl : 1 ≤ cs.length ∧ cs.length ≤ 200) (hc : ∀ x ∈ cs, 0 ≤ x ∧ x < m) (hg : g r M0 = some (.ok [.ref q, .int m] M))
    (h : VD (M ++ [vaultO m (M.length + 1) (M.length + 2), .lst (cs.map D.int), .lst []]) (R ++ [vaultO m (M.length + 1) (M.length + 2), .lst (cs.map D.int), .lst []]) M.length (M.length + 1) (M.length + 2) m cs [] → P (.ok (.ref M.length) (M ++ [vaultO m (M.length + 1) (M.length + 2), .lst (cs.map D.int), .lst []]))) : Wp (eMake "Vault" m_Vault___init__ g r M0) P := by
  have hin := vault_init (M := M ++ [O.ins "Vault" []]) (q := q) (i := M.length) (cs := cs) hm get_here (get_old hq) hl hc
  have hl4 := hD.len
  have hl5 : (M ++ [O.ins "Vault" []]).length = M.length + 1 := by simp
  have hva := vault_at (M := M ++ [O.ins "Vault" []]) (i := M.length) (cs := cs) hm (by simp) hl hc
  have hset : (M ++ [O.ins "Vault" []]).set M.length (vaultO m (M.length + 1) (M.length + 1 + 1)) = M ++ [vaultO m (M.length + 1) (M.length + 2)] := set_app
  rw [hl5, hset, List.append_assoc] at hin hva
  unfold eMake
  rw [hg, bnd_ok, hin]
  exact wp_of_eq rfl (h ⟨hD.app _, hva, by omega, by omega, fun i L e => nomatch e⟩)
theorem house_ok {M R : Hd} {m : Int} (hD : Dr M R) (hm : 2 ≤ m ∧ m ≤ 1000000000) : Wp (m__law_house [.ref 1, .int m] M) (okQ fun d M1 => ∃ (X : Hd) (h v ms : Nat) (cs : List Int), d = .ref h ∧ VD M1 (R ++ X) v (v + 1) (v + 2) m cs [] ∧ M1[h]? = some (.lst [.ref v, .ref ms, .int 0, .int 0, .int 0]) ∧ M1[ms]? = some (.lst (cs.map D.int)) ∧ (M.length ≤ ms ∧ ms < v ∧ v + 2 < h ∧ M1.length = h + 1) ∧ (3 ≤ cs.length ∧ cs.length ≤ 200)) := by
  refine wp_mir rfl ?_
  unfold g__law_house
  walk_at "ds"
  obtain ⟨_, M1, e1, n0, X1, rfl, hn0, hD1⟩ := wp_okE (sizeN_ok hD)
  generalize hN : (if n0 > 3 then n0 else 3) = N
  have hN2 : 3 ≤ N ∧ N ≤ 200 := by
    subst hN
    split <;> omega
  refine (wp_numsN (n := N) (di := 0) (mi := 1) (M := M1) (by omega) hm.1 ?_ hD1 rfl rfl (by decide)).ok ?_
  · simp only [rng1, eCB, eC, eCall, aCons, aNil, eVar, List.getElem?_cons_zero, List.getElem?_cons_succ, bnd_ok]
    rw [e1]
    simp only [bnd_ok, max2_int]
    rw [hN]
    exact if_sm (by omega)
  rintro _ M2 ⟨cs, X2, rfl, hcl, hcs, hD2⟩
  have g2 : M2[(R ++ X1).length + 2]? = some (O.lst (cs.map D.int)) := by
    rw [hD2.get]
    exact get_here
  have hms2 : (R ++ X1).length + 2 < M2.length := (List.getElem?_eq_some_iff.mp g2).1
  have hl := hD.len
  have hml : M.length ≤ (R ++ X1).length + 2 := by rw [List.length_append]; omega
  generalize (R ++ X1).length + 2 = ms at g2 hms2 hml ⊢
  generalize hZ : O.lst (cs.map D.int) :: X2 = Z2 at hD2
  walk_at "ds"
  have hD3 := hD2.app [O.lst (cs.map D.int)]
  have hl3 : (M2 ++ [O.lst (cs.map D.int)]).length = M2.length + 1 := by simp
  have g3 := get_old (Z := [O.lst (cs.map D.int)]) g2
  refine vault_app hD3 hm get_here (by omega) hcs (by
    simp only [aCons, aNil, eUn, eVar, eC, List.getElem?_cons_zero, List.getElem?_cons_succ, bnd_ok]
    rw [listG_ref g2]
    rfl) ?_
  rw [hl3]
  intro V
  have V := V.app [O.lst [.ref (M2.length + 1), .ref ms, .int 0, .int 0, .int 0]]
  walk_at "ds"
  have hX : ∃ X, R ++ X1 ++ Z2 ++ [O.lst (cs.map D.int)] ++ [vaultO m (M2.length + 1 + 1) (M2.length + 1 + 2), O.lst (cs.map D.int), O.lst []] ++ [O.lst [.ref (M2.length + 1), .ref ms, .int 0, .int 0, .int 0]] = R ++ X := ⟨_, by simp only [List.append_assoc]; rfl⟩
  obtain ⟨X, hX⟩ := hX
  rw [hX] at V
  exact ⟨X, _, M2.length + 1, ms, cs, rfl, V, get_here, get_old (get_old g3), by simp; omega, by omega⟩
/-! ### the law: whole loans give back -/
theorem law_ok (ns : List Int) (h : ns.length ≤ 63) : Wp (m_law [.fl (ns.map D.int)] []) (okQ fun d _ => d = .bl true) := by
  refine wp_mir rfl ?_
  unfold g_law
  walk_at "ds"
  refine (numbers_ok ns h).ok ?_
  rintro _ _ ⟨ds, rfl, rfl, hN, _⟩
  walk_at "ds"
  have hD : Dr [O.lst ds, .lst [.ref 0, .int 0]] [] := ⟨ds, 0, rfl, hN, by decide⟩
  generalize [O.lst ds, .lst [.ref 0, .int 0]] = M0 at hD
  generalize D.fl (ns.map D.int) = NS
  refine (modulusG_ok hD).ok ?_
  rintro _ M1 ⟨m0, X1, rfl, hm0, hD⟩
  rw [List.nil_append] at hD
  walk_at "ds"
  refine (modulusG_ok hD).ok ?_
  rintro _ M2 ⟨m1, X2, rfl, hm1, hD⟩
  walk_at "ds"
  have hl2 := hD.len
  have hD := hD.app [O.lst [.int m0, .int m1]]
  refine (draw_ok hD).ok ?_
  rintro _ M3 ⟨a, rfl, _, _, hD3⟩
  walk_at "ds"
  generalize hb : decide (a % 2 = 0) = b
  generalize X1 ++ X2 = R2 at *
  have g3 : M3[M2.length]? = some (O.lst [.int m0, .int m1]) := by
    rw [hl2, hD3.get]
    exact get_here
  have h2md : 2 ≤ M2.length ∧ M2.length < M3.length := ⟨by omega, (List.getElem?_eq_some_iff.mp g3).1⟩
  refine Wp.imp (Q := fun o => ∃ M4 R4 m1', o = (Fl.nx [some NS, some (.ref 1), some (.ref M2.length), some (.bl b), none, none, none, none], M4) ∧ Dr M4 R4 ∧ M4[M2.length]? = some (O.lst [.int m0, .int m1']) ∧ (b = true → m0 = m1') ∧ (2 ≤ m1' ∧ m1' ≤ 1000000000)) ?_ ?_
  · refine wp_ifE ?_
    cases b with
    | true =>
      walk_at "ds"
      rw [g3]
      walk_at "ds"
      rw [g3]
      walk_at "ds"
      have hD4 := hD3.set R2.length (O.lst [.int m0, .int m0])
      rw [← hl2] at hD4
      exact ⟨_, _, m0, rfl, hD4, set_get g3, (fun _ => rfl), hm0⟩
    | false =>
      walk_at "ds"
      exact ⟨_, _, m1, rfl, hD3, g3, (fun e => by simp at e), hm1⟩
  rintro _ ⟨M4, R4, m1', rfl, hD, g4, hbm, hm1⟩
  clear hD3 g3 hb
  have hl4 : M2.length < M4.length := (List.getElem?_eq_some_iff.mp g4).1
  have h2md := h2md.1
  generalize M2.length = md at *
  rw [nxQ_nx]
  walk_at "ds"
  rw [g4]
  walk_at "ds"
  -- the houses
  refine (house_ok hD hm0).ok ?_
  rintro _ M5 ⟨X5, h0, v0, ms0, cs0, rfl, V0, gh0, gms0, hlt0, hc0⟩
  have g5 := hD.keepX V0.dr h2md g4
  walk_at "ds"
  rw [g5]
  walk_at "ds"
  refine (house_ok V0.dr hm1).ok ?_
  rintro _ M6 ⟨X6, h1, v1, ms1, cs1, rfl, V1, gh1, gms1, hlt1, hc1⟩
  have V0' := V0.ext V1.dr
  have g6 := V0.dr.keepX V1.dr h2md g5
  have gh06 := V0.dr.keepX V1.dr (by omega) gh0
  have gms06 := V0.dr.keepX V1.dr (by omega) gms0
  clear V0 gh0 gms0 g5 g4 hD
  walk_at "ds"
  generalize R4 ++ X5 ++ X6 = R6 at V0' V1
  have V0 := V0'.app [O.lst [.ref h0, .ref h1]]
  have V1 := V1.app [O.lst [.ref h0, .ref h1]]
  have gmd := get_old (Z := [O.lst [.ref h0, .ref h1]]) g6
  have gh0 := get_old (Z := [O.lst [.ref h0, .ref h1]]) gh06
  have gms0 := get_old (Z := [O.lst [.ref h0, .ref h1]]) gms06
  have gh1 := get_old (Z := [O.lst [.ref h0, .ref h1]]) gh1
  have gms1 := get_old (Z := [O.lst [.ref h0, .ref h1]]) gms1
  have ghs : (M6 ++ [O.lst [.ref h0, .ref h1]])[M6.length]? = some (O.lst [.ref h0, .ref h1]) := get_here
  have hlh : (M6 ++ [O.lst [.ref h0, .ref h1]]).length = M6.length + 1 := by simp
  clear V0' g6 gh06 gms06
  generalize M6.length = hs at *
  generalize M6 ++ [O.lst [.ref h0, .ref h1]] = M7 at *
  generalize R6 ++ [O.lst [.ref h0, .ref h1]] = R7 at *
  -- the known ones
  refine Wp.imp (Q := fun o => ∃ kn1, o = (Fl.nx [some NS, some (.ref 1), some (.ref md), some (.bl b), some (.ref hs), some (.ref (M7.length + 2)), none, none], M7 ++ [O.lst [], O.lst [], O.lst [.ref M7.length, .ref kn1]]) ∧ (M7.length = kn1 → m0 = m1') ∧ (kn1 = M7.length ∨ kn1 = M7.length + 1)) ?_ ?_
  · walk_at "ds"
    have hl9 : (M7 ++ [O.lst []]).length = M7.length + 1 := by simp
    have hl8 : (M7 ++ [O.lst []] ++ [O.lst []]).length = M7.length + 2 := by simp
    have eA : M7 ++ [O.lst []] ++ [O.lst []] ++ [O.lst [D.ref M7.length, .ref (M7.length + 1)]] = M7 ++ [O.lst [], O.lst [], O.lst [D.ref M7.length, .ref (M7.length + 1)]] := by simp
    rw [hl8, hl9, eA]
    have gK : (M7 ++ [O.lst [], O.lst [], O.lst [D.ref M7.length, .ref (M7.length + 1)]])[M7.length + 2]? = some (O.lst [D.ref M7.length, .ref (M7.length + 1)]) := by
      rw [← eA, ← hl8]
      exact get_here
    have sK : (M7 ++ [O.lst [], O.lst [], O.lst [D.ref M7.length, .ref (M7.length + 1)]]).set (M7.length + 2) (O.lst [D.ref M7.length, .ref M7.length]) = M7 ++ [O.lst [], O.lst [], O.lst [D.ref M7.length, .ref M7.length]] := by
      rw [List.set_append_right _ _ (by omega), Nat.add_sub_cancel_left]
      rfl
    refine wp_ifE ?_
    cases b with
    | true =>
      walk_at "ds"
      rw [gK]
      walk_at "ds"
      rw [gK]
      walk_at "ds"
      refine ⟨M7.length, ?_, fun _ => hbm rfl, .inl rfl⟩
      rw [sK]
    | false =>
      walk_at "ds"
      exact ⟨M7.length + 1, rfl, fun e => by omega, .inr rfl⟩
  rintro _ ⟨kn1, rfl, hkm, hkn⟩
  have V0 := V0.app [O.lst [], O.lst [], O.lst [D.ref M7.length, .ref kn1]]
  have V1 := V1.app [O.lst [], O.lst [], O.lst [D.ref M7.length, .ref kn1]]
  have gmd := get_old (Z := [O.lst [], O.lst [], O.lst [D.ref M7.length, .ref kn1]]) gmd
  have gh0 := get_old (Z := [O.lst [], O.lst [], O.lst [D.ref M7.length, .ref kn1]]) gh0
  have gh1 := get_old (Z := [O.lst [], O.lst [], O.lst [D.ref M7.length, .ref kn1]]) gh1
  have gms0 := get_old (Z := [O.lst [], O.lst [], O.lst [D.ref M7.length, .ref kn1]]) gms0
  have gms1 := get_old (Z := [O.lst [], O.lst [], O.lst [D.ref M7.length, .ref kn1]]) gms1
  have ghs := get_old (Z := [O.lst [], O.lst [], O.lst [D.ref M7.length, .ref kn1]]) ghs
  have gk0 : (M7 ++ [O.lst [], O.lst [], O.lst [D.ref M7.length, .ref kn1]])[M7.length]? = some (O.lst []) := get_mid
  have gk1 : (M7 ++ [O.lst [], O.lst [], O.lst [D.ref M7.length, .ref kn1]])[kn1]? = some (O.lst []) := by
    rcases hkn with rfl | rfl
    · exact gk0
    · rw [List.getElem?_append_right (by omega), Nat.add_sub_cancel_left]
      rfl
  have gK : (M7 ++ [O.lst [], O.lst [], O.lst [D.ref M7.length, .ref kn1]])[M7.length + 2]? = some (O.lst [D.ref M7.length, .ref kn1]) := by
    rw [List.getElem?_append_right (by omega), Nat.add_sub_cancel_left]
    rfl
  have hlM : (M7 ++ [O.lst [], O.lst [], O.lst [D.ref M7.length, .ref kn1]]).length = M7.length + 3 := by simp
  generalize M7 ++ [O.lst [], O.lst [], O.lst [D.ref M7.length, .ref kn1]] = M8 at *
  generalize R7 ++ [O.lst [], O.lst [], O.lst [D.ref M7.length, .ref kn1]] = R8 at *
  have hK2 : hs + 1 = M7.length := hlh.symm
  generalize M7.length = kn0 at *
  generalize hKK : kn0 + 2 = KK at *
  have T : Two M8 R8 [v0 + 1, v0 + 2, v1 + 1, v1 + 2] [h0, h1, kn0, kn1] [(md, O.lst [.int m0, .int m1']), (hs, O.lst [.ref h0, .ref h1]), (KK, O.lst [.ref kn0, .ref kn1])] ⟨v0, v0 + 1, v0 + 2, h0, ms0, kn0, m0, cs0⟩ ⟨v1, v1 + 1, v1 + 2, h1, ms1, kn1, m1', cs1⟩ ⟨cs0, [], 0, 0, 0⟩ ⟨cs1, [], 0, 0, 0⟩ := by
    refine ⟨⟨V0, by simp, ⟨gh0, by show 2 ≤ h0; omega, by simp; omega, lst_no⟩, ⟨gms0, by show 2 ≤ ms0; omega, by simp; omega, lst_no⟩, by simp; omega, by simp, (fun _ _ e => nomatch e), rfl, hc0⟩, ⟨V1, by simp, ⟨gh1, by show 2 ≤ h1; omega, by simp; omega, lst_no⟩, ⟨gms1, by show 2 ≤ ms1; omega, by simp; omega, lst_no⟩, by simp; omega, by simp, (fun _ _ e => nomatch e), rfl, hc1⟩, ?_, ?_, ⟨[], ⟨gk0, by show 2 ≤ kn0; omega, by simp; omega, lst_no⟩, by simp, by decide, fun _ e => nomatch e⟩, ⟨[], ⟨gk1, by show 2 ≤ kn1; omega, by simp; omega, lst_no⟩, by simp, by decide, fun _ e => nomatch e⟩, hkm, by simp; omega, ⟨by simp; omega, by simp; omega⟩, ?_⟩
    · intro i hf ho
      have f1 : i = v1 ∨ i = v1 + 1 ∨ i = v1 + 2 := by
        rcases hf with e | e | e | ⟨j, L, e, _⟩
        · exact .inl e
        · exact .inr (.inl e)
        · exact .inr (.inr e)
        · simp at e
      have f2 : i = v0 + 1 ∨ i = v0 + 2 := by
        rcases ho with e | e | ⟨j, L, e, _⟩
        · exact .inl e
        · exact .inr e
        · simp at e
      omega
    · intro i hf ho
      have f1 : i = v0 ∨ i = v0 + 1 ∨ i = v0 + 2 := by
        rcases hf with e | e | e | ⟨j, L, e, _⟩
        · exact .inl e
        · exact .inr (.inl e)
        · exact .inr (.inr e)
        · simp at e
      have f2 : i = v1 + 1 ∨ i = v1 + 2 := by
        rcases ho with e | e | ⟨j, L, e, _⟩
        · exact .inl e
        · exact .inr e
        · simp at e
      omega
    · intro q hq
      simp only [List.mem_cons, List.not_mem_nil, or_false] at hq
      rcases hq with rfl | rfl | rfl
      · exact ⟨⟨gmd, h2md, by simp; omega, lst_no⟩, by simp; omega⟩
      · exact ⟨⟨ghs, by show 2 ≤ hs; omega, by simp; omega, lst_no⟩, by simp; omega⟩
      · exact ⟨⟨gK, by show 2 ≤ KK; omega, by simp; omega, lst_no⟩, by simp; omega⟩
  have B0 : Bal ⟨cs0, [], 0, 0, 0⟩ := ⟨rfl, rfl, Nat.zero_le _⟩
  have B1 : Bal ⟨cs1, [], 0, 0, 0⟩ := ⟨rfl, rfl, Nat.zero_le _⟩
  generalize (⟨cs0, [], 0, 0, 0⟩ : HX) = X at T B0
  generalize (⟨cs1, [], 0, 0, 0⟩ : HX) = Y at T B1
  generalize hP : (⟨v0, v0 + 1, v0 + 2, h0, ms0, kn0, m0, cs0⟩ : HP) = P at T
  generalize hQ : (⟨v1, v1 + 1, v1 + 2, h1, ms1, kn1, m1', cs1⟩ : HP) = Q at T
  have p1 : P.h = h0 ∧ P.m = m0 ∧ P.kn = kn0 := by rw [← hP]; exact ⟨rfl, rfl, rfl⟩
  have p2 : Q.h = h1 ∧ Q.m = m1' ∧ Q.kn = kn1 := by rw [← hQ]; exact ⟨rfl, rfl, rfl⟩
  generalize [v0 + 1, v0 + 2, v1 + 1, v1 + 2] = cl at T
  generalize [h0, h1, kn0, kn1] = mu at T
  obtain ⟨a1, a2, a3⟩ := p1
  obtain ⟨b1, b2, b3⟩ := p2
  subst a1 a2 a3 b1 b2 b3
  clear V0 V1 gmd gh0 gh1 gms0 gms1 ghs gk0 gk1 gK hlM hKK hkm hkn hK2 hlh hlt0 hlt1 hc0 hc1 hP hQ hbm hm0 hm1 h2md
  rw [nxQ_nx]
  walk_at "ds"
  refine (draw_ok T.a.V.dr).ok ?_
  rintro _ M9 ⟨a, rfl, _, _, hD⟩
  have T := T.ext (Z := []) (by rw [List.append_nil]; exact hD)
  walk_at "ds"
  rw [if_smP (by omega)]
  clear hD
  generalize R8 ++ [] = R9 at T
  refine wp_forL (fun i r M => ∃ R X Y a6 a7, r = [some NS, some (.ref 1), some (.ref md), some (.bl b), some (.ref hs), some (.ref KK), a6, a7] ∧ Two M R cl mu [(md, O.lst [.int P.m, .int Q.m]), (hs, O.lst [.ref P.h, .ref Q.h]), (KK, O.lst [.ref P.kn, .ref Q.kn])] P Q X Y ∧ Bal X ∧ Bal Y) ?_ ?_ ?_
  · rintro i d r M hd ⟨R, X, Y, a6, a7, rfl, T, B0, B1⟩
    obtain ⟨hi, rfl⟩ := ints_get hd
    refine ⟨by simp, _, rfl, ?_⟩
    walk_at "ds"
    refine (draw_ok T.a.V.dr).ok ?_
    rintro _ M2 ⟨a, rfl, _, _, hD⟩
    have T := T.ext (Z := []) (by rw [List.append_nil]; exact hD)
    clear hD
    have gmd := (T.ex_ _ (List.mem_cons_self)).1.at_
    have ghs := (T.ex_ _ (List.mem_cons_of_mem _ List.mem_cons_self)).1.at_
    have gK := (T.ex_ _ (List.mem_cons_of_mem _ (List.mem_cons_of_mem _ List.mem_cons_self))).1.at_
    dsimp only at gmd ghs gK
    walk_at "ds"
    have ha : a % 2 = 0 ∨ a % 2 = 1 := by omega
    rcases ha with ha | ha <;> rw [ha]
    · rw [ghs]
      walk_at "ds"
      rw [gmd]
      walk_at "ds"
      rw [gK]
      walk_at "ds"
      refine (move_ok T B0).ok ?_
      rintro _ M3 ⟨R3, X3, T, B0⟩
      walk_at "ds"
      exact ⟨R3, X3, Y, _, _, rfl, T, B0, B1⟩
    · rw [ghs]
      walk_at "ds"
      rw [gmd]
      walk_at "ds"
      rw [gK]
      walk_at "ds"
      refine (move_ok T.swap B1).ok ?_
      rintro _ M3 ⟨R3, Y3, T, B1⟩
      walk_at "ds"
      exact ⟨R3, X, Y3, _, _, rfl, T.swap, B0, B1⟩
  · rintro r M ⟨R, X, Y, a6, a7, rfl, T, B0, B1⟩
    refine ⟨by simp, ?_⟩
    have ghs := (T.ex_ _ (List.mem_cons_of_mem _ List.mem_cons_self)).1.at_
    dsimp only at ghs
    walk_at "ds"
    rw [ghs]
    walk_at "ds"
    refine (back_ok T B0).ok ?_
    rintro _ M2 ⟨rfl, R2, X2, T⟩
    have ghs := (T.ex_ _ (List.mem_cons_of_mem _ List.mem_cons_self)).1.at_
    dsimp only at ghs
    walk_at "ds"
    rw [ghs]
    walk_at "ds"
    refine (back_ok T.swap B1).ok ?_
    rintro _ M3 ⟨rfl, _⟩
    walk_at "ds"
    first | done | rfl
  · exact ⟨R9, X, Y, _, _, rfl, T, B0, B1⟩
theorem law_true (ns : List Int) (h : ns.length ≤ 63) : ∃ M, m_law [.fl (ns.map D.int)] [] = some (.ok (.bl true) M) := wp_law (law_ok ns h)
end G

end

section
set_option Elab.async false
set_option linter.all false
set_option maxRecDepth 100000
set_option maxHeartbeats 4000000
namespace E
open PySem PySem.Spec PyProof.Rows L2 DI G
theorem gi {mg : Str → Option Value} {x : Str} {i : Int} (h : ∃ t, mg x = some (.int i t)) : ∃ u, mg x = some u ∧ RelV (.int i) u := by
  obtain ⟨t, h⟩ := h
  exact ⟨_, h, t, rfl⟩
theorem facts {P : Program} {w : World} {K : PySem.W.Frag} {h : Heap} {mg : Str → Option Value} {f : Addr} (X : K.In h) (G : h.Ns mainGlobals mg) (hfa : mg ("law" : Str) = some (.ref f)) (c : He.SaysD fa fn K) (cxx : (exl K).all id = true ∧ prs.map (PrD.w K) = prs.map fun p => p.d.val) :
    ∃ fd : FuncData, (∀ (s : Shared) (v : Value), BindsTo s fd ⟨[v], []⟩ [("_law_script", v)]) ∧ ∀ base : Heap, K.In base → base.Ns mainGlobals mg → FnOk P w K mg base (L2.CX P w) 11 f fd P_law (spD K mg 1 m_law) := by
  have cx := cxx.1
  have pw := cxx.2
  obtain ⟨fd__law_mixed, FD__law_mixed⟩ := c.def_ 0 (d := e__law_mixed) rfl
  obtain ⟨fd__law_numbers, FD__law_numbers⟩ := c.def_ 1 (d := e__law_numbers) rfl
  obtain ⟨fd__law_draw, FD__law_draw⟩ := c.def_ 2 (d := e__law_draw) rfl
  obtain ⟨fd__law_modulus, FD__law_modulus⟩ := c.def_ 3 (d := e__law_modulus) rfl
  obtain ⟨fd_is_integer, FD_is_integer⟩ := c.def_ 4 (d := e_is_integer) rfl
  obtain ⟨fd_is_number, FD_is_number⟩ := c.def_ 5 (d := e_is_number) rfl
  obtain ⟨fd_check_numbers, FD_check_numbers⟩ := c.def_ 6 (d := e_check_numbers) rfl
  obtain ⟨fd_Vault___init__, FD_Vault___init__⟩ := c.def_ 7 (d := e_Vault___init__) rfl
  obtain ⟨fd__law_number, FD__law_number⟩ := c.def_ 8 (d := e__law_number) rfl
  obtain ⟨fd__law_size, FD__law_size⟩ := c.def_ 9 (d := e__law_size) rfl
  obtain ⟨fd__law_house, FD__law_house⟩ := c.def_ 10 (d := e__law_house) rfl
  obtain ⟨fd_Vault_open_loans, FD_Vault_open_loans⟩ := c.def_ 11 (d := e_Vault_open_loans) rfl
  obtain ⟨fd_Loan___init__, FD_Loan___init__⟩ := c.def_ 12 (d := e_Loan___init__) rfl
  obtain ⟨fd_Vault_lend, FD_Vault_lend⟩ := c.def_ 13 (d := e_Vault_lend) rfl
  obtain ⟨fd__law_is_prime, FD__law_is_prime⟩ := c.def_ 14 (d := e__law_is_prime) rfl
  obtain ⟨fd__law_look, FD__law_look⟩ := c.def_ 15 (d := e__law_look) rfl
  obtain ⟨fd__law_factors, FD__law_factors⟩ := c.def_ 16 (d := e__law_factors) rfl
  obtain ⟨fd__law_gcd, FD__law_gcd⟩ := c.def_ 17 (d := e__law_gcd) rfl
  obtain ⟨fd__law_step, FD__law_step⟩ := c.def_ 18 (d := e__law_step) rfl
  obtain ⟨fd__law_places, FD__law_places⟩ := c.def_ 19 (d := e__law_places) rfl
  obtain ⟨fd__law_loan, FD__law_loan⟩ := c.def_ 20 (d := e__law_loan) rfl
  obtain ⟨fd_Vault_found, FD_Vault_found⟩ := c.def_ 21 (d := e_Vault_found) rfl
  obtain ⟨fd_Vault_blocked, FD_Vault_blocked⟩ := c.def_ 22 (d := e_Vault_blocked) rfl
  obtain ⟨fd_inverse_of, FD_inverse_of⟩ := c.def_ 23 (d := e_inverse_of) rfl
  obtain ⟨fd_weights, FD_weights⟩ := c.def_ 24 (d := e_weights) rfl
  obtain ⟨fd_interpolate, FD_interpolate⟩ := c.def_ 25 (d := e_interpolate) rfl
  obtain ⟨fd_perform_steps, FD_perform_steps⟩ := c.def_ 26 (d := e_perform_steps) rfl
  obtain ⟨fd_Vault_perform, FD_Vault_perform⟩ := c.def_ 27 (d := e_Vault_perform) rfl
  obtain ⟨fd_Vault_advance, FD_Vault_advance⟩ := c.def_ 28 (d := e_Vault_advance) rfl
  obtain ⟨fd_Vault_answer, FD_Vault_answer⟩ := c.def_ 29 (d := e_Vault_answer) rfl
  obtain ⟨fd_inverse_step, FD_inverse_step⟩ := c.def_ 30 (d := e_inverse_step) rfl
  obtain ⟨fd_Vault_recall, FD_Vault_recall⟩ := c.def_ 31 (d := e_Vault_recall) rfl
  obtain ⟨fd__law_called, FD__law_called⟩ := c.def_ 32 (d := e__law_called) rfl
  obtain ⟨fd_is_factor, FD_is_factor⟩ := c.def_ 33 (d := e_is_factor) rfl
  obtain ⟨fd_is_add, FD_is_add⟩ := c.def_ 34 (d := e_is_add) rfl
  obtain ⟨fd_is_table, FD_is_table⟩ := c.def_ 35 (d := e_is_table) rfl
  obtain ⟨fd_is_look, FD_is_look⟩ := c.def_ 36 (d := e_is_look) rfl
  obtain ⟨fd_is_step, FD_is_step⟩ := c.def_ 37 (d := e_is_step) rfl
  obtain ⟨fd_is_prime, FD_is_prime⟩ := c.def_ 38 (d := e_is_prime) rfl
  obtain ⟨fd_check_steps, FD_check_steps⟩ := c.def_ 39 (d := e_check_steps) rfl
  obtain ⟨fd_Program___init__, FD_Program___init__⟩ := c.def_ 40 (d := e_Program___init__) rfl
  obtain ⟨fd__law_move, FD__law_move⟩ := c.def_ 41 (d := e__law_move) rfl
  obtain ⟨fd__law_equal, FD__law_equal⟩ := c.def_ 42 (d := e__law_equal) rfl
  obtain ⟨fd__law_all_equal, FD__law_all_equal⟩ := c.def_ 43 (d := e__law_all_equal) rfl
  obtain ⟨fd__law_given_back, FD__law_given_back⟩ := c.def_ 44 (d := e__law_given_back) rfl
  obtain ⟨fd_law, FD_law⟩ := c.def_ 45 (d := e_law) rfl
  obtain ⟨PO_Vault_memory, fd_Vault_memory, FD_Vault_memory⟩ := PrD.all (p := e_Vault_memory) (ex_at cx 0) (pr_at pw 0)
  have e := hfa.symm.trans (He.glo_ok X G (c.fact 96 (f := .glo "law") rfl))
  cases e
  have b := FunD.bindsA (ps := P_law) FD_law fun _ _ _ _ _ _ us hl => match us, hl with | [_], _ => rfl
  refine ⟨fd_law, fun s v => b s [v] rfl, fun base _ _ => ?_⟩
  have D__law_mixed := d__law_mixed (P := P) (w := w) (base := base) FD__law_mixed (He.glo_ok X G (c.fact 0 (f := .glo "_law_mixed") rfl)) 
  have D__law_numbers := d__law_numbers (P := P) (w := w) (base := base) FD__law_numbers (He.glo_ok X G (c.fact 2 (f := .glo "_law_numbers") rfl)) (He.free_ok X G (c.fact 1 (f := .free "range") rfl)) D__law_mixed
  have D__law_draw := d__law_draw (P := P) (w := w) (base := base) FD__law_draw (He.glo_ok X G (c.fact 4 (f := .glo "_law_draw") rfl)) (He.free_ok X G (c.fact 3 (f := .free "len") rfl)) D__law_mixed
  have D__law_modulus := d__law_modulus (P := P) (w := w) (base := base) FD__law_modulus (He.glo_ok X G (c.fact 5 (f := .glo "_law_modulus") rfl)) D__law_draw
  have D_is_integer := d_is_integer (P := P) (w := w) (base := base) FD_is_integer (He.glo_ok X G (c.fact 9 (f := .glo "is_integer") rfl)) (He.free_ok X G (c.fact 6 (f := .free "isinstance") rfl)) (He.free_ok X G (c.fact 7 (f := .free "int") rfl)) (He.free_ok X G (c.fact 8 (f := .free "bool") rfl))
  have D_is_number := d_is_number (P := P) (w := w) (base := base) FD_is_number (He.glo_ok X G (c.fact 10 (f := .glo "is_number") rfl)) D_is_integer
  have D_check_numbers := d_check_numbers (P := P) (w := w) (base := base) FD_check_numbers (He.glo_ok X G (c.fact 14 (f := .glo "check_numbers") rfl)) (He.free_ok X G (c.fact 6 (f := .free "isinstance") rfl)) (He.free_ok X G (c.fact 11 (f := .free "list") rfl)) (He.free_ok X G (c.fact 3 (f := .free "len") rfl)) D_is_number (xcl_of (He.glo_ok X G (c.fact 12 (f := .glo "BadMemory") rfl)) (c.fact 13 (f := .exc "BadMemory") rfl))
  have D_Vault___init__ := d_Vault___init__ (P := P) (w := w) (base := base) FD_Vault___init__ (He.glo_ok X G (c.fact 20 (f := .glo "Vault") rfl)) (He.mkr_ok (c.fact 22 (f := .mkr "Vault") rfl)) (He.free_ok X G (c.fact 6 (f := .free "isinstance") rfl)) (He.free_ok X G (c.fact 11 (f := .free "list") rfl)) (He.free_ok X G (c.fact 3 (f := .free "len") rfl)) (gi (He.int_ok X G (c.fact 15 (f := .int "MODULUS"  1000000000) rfl))) (gi (He.int_ok X G (c.fact 16 (f := .int "MOST"  200) rfl))) D_is_integer D_check_numbers (xcl_of (He.glo_ok X G (c.fact 12 (f := .glo "BadMemory") rfl)) (c.fact 13 (f := .exc "BadMemory") rfl)) ⟨_, (He.glo_ok X G (c.fact 20 (f := .glo "Vault") rfl)), He.cls_ok (c.fact 21 (f := .cls "Vault") rfl), (List.forall_mem_cons.mpr ⟨He.noat_ok (c.fact 19 (f := .noat "Vault" "modulus") rfl), (List.forall_mem_cons.mpr ⟨He.noat_ok (c.fact 18 (f := .noat "Vault" "cells") rfl), (List.forall_mem_cons.mpr ⟨He.noat_ok (c.fact 17 (f := .noat "Vault" "loans") rfl), (fun _ h => nomatch h)⟩)⟩)⟩)⟩
  have D__law_number := d__law_number (P := P) (w := w) (base := base) FD__law_number (He.glo_ok X G (c.fact 23 (f := .glo "_law_number") rfl)) D__law_draw
  have D__law_size := d__law_size (P := P) (w := w) (base := base) FD__law_size (He.glo_ok X G (c.fact 24 (f := .glo "_law_size") rfl)) D__law_draw
  have D__law_house := d__law_house (P := P) (w := w) (base := base) FD__law_house (He.glo_ok X G (c.fact 26 (f := .glo "_law_house") rfl)) (He.free_ok X G (c.fact 25 (f := .free "max") rfl)) (He.free_ok X G (c.fact 1 (f := .free "range") rfl)) (He.free_ok X G (c.fact 11 (f := .free "list") rfl)) D__law_size D__law_number D_Vault___init__
  have D_Vault_open_loans := d_Vault_open_loans (P := P) (w := w) (base := base) FD_Vault_open_loans (He.glo_ok X G (c.fact 20 (f := .glo "Vault") rfl)) (He.cls_ok (c.fact 21 (f := .cls "Vault") rfl)) (He.meth_ok (c.fact 28 (f := .meth "Vault" "open_loans") rfl)) (He.free_ok X G (c.fact 27 (f := .free "enumerate") rfl)) ⟨_, (He.glo_ok X G (c.fact 20 (f := .glo "Vault") rfl)), He.cls_ok (c.fact 21 (f := .cls "Vault") rfl), (List.forall_mem_cons.mpr ⟨He.noat_ok (c.fact 19 (f := .noat "Vault" "modulus") rfl), (List.forall_mem_cons.mpr ⟨He.noat_ok (c.fact 18 (f := .noat "Vault" "cells") rfl), (List.forall_mem_cons.mpr ⟨He.noat_ok (c.fact 17 (f := .noat "Vault" "loans") rfl), (fun _ h => nomatch h)⟩)⟩)⟩)⟩
  have D_Loan___init__ := d_Loan___init__ (P := P) (w := w) (base := base) FD_Loan___init__ (He.glo_ok X G (c.fact 34 (f := .glo "Loan") rfl)) (He.mkr_ok (c.fact 36 (f := .mkr "Loan") rfl)) ⟨_, (He.glo_ok X G (c.fact 34 (f := .glo "Loan") rfl)), He.cls_ok (c.fact 35 (f := .cls "Loan") rfl), (List.forall_mem_cons.mpr ⟨He.noat_ok (c.fact 33 (f := .noat "Loan" "program") rfl), (List.forall_mem_cons.mpr ⟨He.noat_ok (c.fact 32 (f := .noat "Loan" "places") rfl), (List.forall_mem_cons.mpr ⟨He.noat_ok (c.fact 31 (f := .noat "Loan" "given") rfl), (List.forall_mem_cons.mpr ⟨He.noat_ok (c.fact 30 (f := .noat "Loan" "begun") rfl), (List.forall_mem_cons.mpr ⟨He.noat_ok (c.fact 29 (f := .noat "Loan" "done") rfl), (fun _ h => nomatch h)⟩)⟩)⟩)⟩)⟩)⟩
  have D_Vault_lend := d_Vault_lend (P := P) (w := w) (base := base) FD_Vault_lend (He.glo_ok X G (c.fact 20 (f := .glo "Vault") rfl)) (He.cls_ok (c.fact 21 (f := .cls "Vault") rfl)) (He.meth_ok (c.fact 45 (f := .meth "Vault" "lend") rfl)) (He.free_ok X G (c.fact 6 (f := .free "isinstance") rfl)) (He.free_ok X G (c.fact 11 (f := .free "list") rfl)) (He.free_ok X G (c.fact 3 (f := .free "len") rfl)) D_is_number D_check_numbers D_Loan___init__ ⟨_, (He.glo_ok X G (c.fact 41 (f := .glo "Program") rfl)), He.cls_ok (c.fact 42 (f := .cls "Program") rfl), (List.forall_mem_cons.mpr ⟨He.noat_ok (c.fact 40 (f := .noat "Program" "modulus") rfl), (List.forall_mem_cons.mpr ⟨He.noat_ok (c.fact 39 (f := .noat "Program" "cells") rfl), (List.forall_mem_cons.mpr ⟨He.noat_ok (c.fact 38 (f := .noat "Program" "inputs") rfl), (List.forall_mem_cons.mpr ⟨He.noat_ok (c.fact 37 (f := .noat "Program" "steps") rfl), (fun _ h => nomatch h)⟩)⟩)⟩)⟩)⟩ ⟨_, (He.glo_ok X G (c.fact 20 (f := .glo "Vault") rfl)), He.cls_ok (c.fact 21 (f := .cls "Vault") rfl), (List.forall_mem_cons.mpr ⟨He.noat_ok (c.fact 19 (f := .noat "Vault" "modulus") rfl), (List.forall_mem_cons.mpr ⟨He.noat_ok (c.fact 18 (f := .noat "Vault" "cells") rfl), (List.forall_mem_cons.mpr ⟨He.noat_ok (c.fact 17 (f := .noat "Vault" "loans") rfl), (fun _ h => nomatch h)⟩)⟩)⟩)⟩ (xcl_of (He.glo_ok X G (c.fact 43 (f := .glo "BadStep") rfl)) (c.fact 44 (f := .exc "BadStep") rfl)) (xcl_of (He.glo_ok X G (c.fact 12 (f := .glo "BadMemory") rfl)) (c.fact 13 (f := .exc "BadMemory") rfl))
  have D__law_is_prime := d__law_is_prime (P := P) (w := w) (base := base) FD__law_is_prime (He.glo_ok X G (c.fact 46 (f := .glo "_law_is_prime") rfl)) (He.free_ok X G (c.fact 1 (f := .free "range") rfl)) (He.free_ok X G (c.fact 3 (f := .free "len") rfl))
  have D__law_look := d__law_look (P := P) (w := w) (base := base) FD__law_look (He.glo_ok X G (c.fact 49 (f := .glo "_law_look") rfl)) (He.free_ok X G (c.fact 47 (f := .free "min") rfl)) (He.free_ok X G (c.fact 1 (f := .free "range") rfl)) (He.free_ok X G (c.fact 48 (f := .free "tuple") rfl)) D__law_draw D__law_number
  have D__law_factors := d__law_factors (P := P) (w := w) (base := base) FD__law_factors (He.glo_ok X G (c.fact 50 (f := .glo "_law_factors") rfl)) (He.free_ok X G (c.fact 1 (f := .free "range") rfl)) (He.free_ok X G (c.fact 48 (f := .free "tuple") rfl)) D__law_draw
  have D__law_gcd := d__law_gcd (P := P) (w := w) (base := base) FD__law_gcd (He.glo_ok X G (c.fact 51 (f := .glo "_law_gcd") rfl)) (He.free_ok X G (c.fact 1 (f := .free "range") rfl))
  have D__law_step := d__law_step (P := P) (w := w) (base := base) FD__law_step (He.glo_ok X G (c.fact 52 (f := .glo "_law_step") rfl)) D__law_draw D__law_number D__law_gcd D__law_is_prime D__law_look D__law_factors
  have D__law_places := d__law_places (P := P) (w := w) (base := base) FD__law_places (He.glo_ok X G (c.fact 53 (f := .glo "_law_places") rfl)) (He.free_ok X G (c.fact 1 (f := .free "range") rfl)) (He.free_ok X G (c.fact 3 (f := .free "len") rfl)) D__law_draw
  have D__law_loan := d__law_loan (P := P) (w := w) (base := base) FD__law_loan (He.glo_ok X G (c.fact 54 (f := .glo "_law_loan") rfl)) (He.free_ok X G (c.fact 47 (f := .free "min") rfl)) (He.free_ok X G (c.fact 1 (f := .free "range") rfl)) D__law_draw D__law_step D__law_number D__law_places
  have D_Vault_found := d_Vault_found (P := P) (w := w) (base := base) FD_Vault_found (He.glo_ok X G (c.fact 20 (f := .glo "Vault") rfl)) (He.cls_ok (c.fact 21 (f := .cls "Vault") rfl)) (He.meth_ok (c.fact 57 (f := .meth "Vault" "found") rfl)) (He.free_ok X G (c.fact 3 (f := .free "len") rfl)) D_is_number ⟨_, (He.glo_ok X G (c.fact 20 (f := .glo "Vault") rfl)), He.cls_ok (c.fact 21 (f := .cls "Vault") rfl), (List.forall_mem_cons.mpr ⟨He.noat_ok (c.fact 19 (f := .noat "Vault" "modulus") rfl), (List.forall_mem_cons.mpr ⟨He.noat_ok (c.fact 18 (f := .noat "Vault" "cells") rfl), (List.forall_mem_cons.mpr ⟨He.noat_ok (c.fact 17 (f := .noat "Vault" "loans") rfl), (fun _ h => nomatch h)⟩)⟩)⟩)⟩ (xcl_of (He.glo_ok X G (c.fact 55 (f := .glo "BadTicket") rfl)) (c.fact 56 (f := .exc "BadTicket") rfl))
  have D_Vault_blocked := d_Vault_blocked (P := P) (w := w) (base := base) FD_Vault_blocked (He.glo_ok X G (c.fact 20 (f := .glo "Vault") rfl)) (He.cls_ok (c.fact 21 (f := .cls "Vault") rfl)) (He.meth_ok (c.fact 59 (f := .meth "Vault" "blocked") rfl)) (He.free_ok X G (c.fact 58 (f := .free "any") rfl)) ⟨_, (He.glo_ok X G (c.fact 20 (f := .glo "Vault") rfl)), He.cls_ok (c.fact 21 (f := .cls "Vault") rfl), (List.forall_mem_cons.mpr ⟨He.noat_ok (c.fact 19 (f := .noat "Vault" "modulus") rfl), (List.forall_mem_cons.mpr ⟨He.noat_ok (c.fact 18 (f := .noat "Vault" "cells") rfl), (List.forall_mem_cons.mpr ⟨He.noat_ok (c.fact 17 (f := .noat "Vault" "loans") rfl), (fun _ h => nomatch h)⟩)⟩)⟩)⟩ ⟨_, (He.glo_ok X G (c.fact 34 (f := .glo "Loan") rfl)), He.cls_ok (c.fact 35 (f := .cls "Loan") rfl), (List.forall_mem_cons.mpr ⟨He.noat_ok (c.fact 33 (f := .noat "Loan" "program") rfl), (List.forall_mem_cons.mpr ⟨He.noat_ok (c.fact 32 (f := .noat "Loan" "places") rfl), (List.forall_mem_cons.mpr ⟨He.noat_ok (c.fact 31 (f := .noat "Loan" "given") rfl), (List.forall_mem_cons.mpr ⟨He.noat_ok (c.fact 30 (f := .noat "Loan" "begun") rfl), (List.forall_mem_cons.mpr ⟨He.noat_ok (c.fact 29 (f := .noat "Loan" "done") rfl), (fun _ h => nomatch h)⟩)⟩)⟩)⟩)⟩)⟩
  have D_inverse_of := d_inverse_of (P := P) (w := w) (base := base) FD_inverse_of (He.glo_ok X G (c.fact 60 (f := .glo "inverse_of") rfl)) 
  have D_weights := d_weights (P := P) (w := w) (base := base) FD_weights (He.glo_ok X G (c.fact 61 (f := .glo "weights") rfl)) (He.free_ok X G (c.fact 1 (f := .free "range") rfl)) D_inverse_of
  have D_interpolate := d_interpolate (P := P) (w := w) (base := base) FD_interpolate (He.glo_ok X G (c.fact 63 (f := .glo "interpolate") rfl)) (He.free_ok X G (c.fact 3 (f := .free "len") rfl)) (He.free_ok X G (c.fact 62 (f := .free "zip") rfl)) D_weights
  have D_perform_steps := d_perform_steps (P := P) (w := w) (base := base) FD_perform_steps (He.glo_ok X G (c.fact 64 (f := .glo "perform_steps") rfl)) D_interpolate
  have D_Vault_perform := d_Vault_perform (P := P) (w := w) (base := base) FD_Vault_perform (He.glo_ok X G (c.fact 20 (f := .glo "Vault") rfl)) (He.cls_ok (c.fact 21 (f := .cls "Vault") rfl)) (He.meth_ok (c.fact 65 (f := .meth "Vault" "perform") rfl)) (He.free_ok X G (c.fact 62 (f := .free "zip") rfl)) D_perform_steps ⟨_, (He.glo_ok X G (c.fact 34 (f := .glo "Loan") rfl)), He.cls_ok (c.fact 35 (f := .cls "Loan") rfl), (List.forall_mem_cons.mpr ⟨He.noat_ok (c.fact 33 (f := .noat "Loan" "program") rfl), (List.forall_mem_cons.mpr ⟨He.noat_ok (c.fact 32 (f := .noat "Loan" "places") rfl), (List.forall_mem_cons.mpr ⟨He.noat_ok (c.fact 31 (f := .noat "Loan" "given") rfl), (List.forall_mem_cons.mpr ⟨He.noat_ok (c.fact 30 (f := .noat "Loan" "begun") rfl), (List.forall_mem_cons.mpr ⟨He.noat_ok (c.fact 29 (f := .noat "Loan" "done") rfl), (fun _ h => nomatch h)⟩)⟩)⟩)⟩)⟩)⟩ ⟨_, (He.glo_ok X G (c.fact 20 (f := .glo "Vault") rfl)), He.cls_ok (c.fact 21 (f := .cls "Vault") rfl), (List.forall_mem_cons.mpr ⟨He.noat_ok (c.fact 19 (f := .noat "Vault" "modulus") rfl), (List.forall_mem_cons.mpr ⟨He.noat_ok (c.fact 18 (f := .noat "Vault" "cells") rfl), (List.forall_mem_cons.mpr ⟨He.noat_ok (c.fact 17 (f := .noat "Vault" "loans") rfl), (fun _ h => nomatch h)⟩)⟩)⟩)⟩
  have D_Vault_advance := d_Vault_advance (P := P) (w := w) (base := base) FD_Vault_advance (He.glo_ok X G (c.fact 20 (f := .glo "Vault") rfl)) (He.cls_ok (c.fact 21 (f := .cls "Vault") rfl)) (He.meth_ok (c.fact 68 (f := .meth "Vault" "advance") rfl)) (He.free_ok X G (c.fact 3 (f := .free "len") rfl)) D_Vault_found D_is_integer D_Vault_blocked D_Vault_perform (xcl_of (He.glo_ok X G (c.fact 12 (f := .glo "BadMemory") rfl)) (c.fact 13 (f := .exc "BadMemory") rfl)) (xcl_of (He.glo_ok X G (c.fact 66 (f := .glo "Busy") rfl)) (c.fact 67 (f := .exc "Busy") rfl)) ⟨_, (He.glo_ok X G (c.fact 34 (f := .glo "Loan") rfl)), He.cls_ok (c.fact 35 (f := .cls "Loan") rfl), (List.forall_mem_cons.mpr ⟨He.noat_ok (c.fact 33 (f := .noat "Loan" "program") rfl), (List.forall_mem_cons.mpr ⟨He.noat_ok (c.fact 32 (f := .noat "Loan" "places") rfl), (List.forall_mem_cons.mpr ⟨He.noat_ok (c.fact 31 (f := .noat "Loan" "given") rfl), (List.forall_mem_cons.mpr ⟨He.noat_ok (c.fact 30 (f := .noat "Loan" "begun") rfl), (List.forall_mem_cons.mpr ⟨He.noat_ok (c.fact 29 (f := .noat "Loan" "done") rfl), (fun _ h => nomatch h)⟩)⟩)⟩)⟩)⟩)⟩ ⟨_, (He.glo_ok X G (c.fact 41 (f := .glo "Program") rfl)), He.cls_ok (c.fact 42 (f := .cls "Program") rfl), (List.forall_mem_cons.mpr ⟨He.noat_ok (c.fact 40 (f := .noat "Program" "modulus") rfl), (List.forall_mem_cons.mpr ⟨He.noat_ok (c.fact 39 (f := .noat "Program" "cells") rfl), (List.forall_mem_cons.mpr ⟨He.noat_ok (c.fact 38 (f := .noat "Program" "inputs") rfl), (List.forall_mem_cons.mpr ⟨He.noat_ok (c.fact 37 (f := .noat "Program" "steps") rfl), (fun _ h => nomatch h)⟩)⟩)⟩)⟩)⟩
  have D_Vault_answer := d_Vault_answer (P := P) (w := w) (base := base) FD_Vault_answer (He.glo_ok X G (c.fact 20 (f := .glo "Vault") rfl)) (He.cls_ok (c.fact 21 (f := .cls "Vault") rfl)) (He.meth_ok (c.fact 69 (f := .meth "Vault" "answer") rfl)) (He.free_ok X G (c.fact 3 (f := .free "len") rfl)) D_Vault_found D_Vault_blocked (xcl_of (He.glo_ok X G (c.fact 66 (f := .glo "Busy") rfl)) (c.fact 67 (f := .exc "Busy") rfl)) ⟨_, (He.glo_ok X G (c.fact 34 (f := .glo "Loan") rfl)), He.cls_ok (c.fact 35 (f := .cls "Loan") rfl), (List.forall_mem_cons.mpr ⟨He.noat_ok (c.fact 33 (f := .noat "Loan" "program") rfl), (List.forall_mem_cons.mpr ⟨He.noat_ok (c.fact 32 (f := .noat "Loan" "places") rfl), (List.forall_mem_cons.mpr ⟨He.noat_ok (c.fact 31 (f := .noat "Loan" "given") rfl), (List.forall_mem_cons.mpr ⟨He.noat_ok (c.fact 30 (f := .noat "Loan" "begun") rfl), (List.forall_mem_cons.mpr ⟨He.noat_ok (c.fact 29 (f := .noat "Loan" "done") rfl), (fun _ h => nomatch h)⟩)⟩)⟩)⟩)⟩)⟩ ⟨_, (He.glo_ok X G (c.fact 41 (f := .glo "Program") rfl)), He.cls_ok (c.fact 42 (f := .cls "Program") rfl), (List.forall_mem_cons.mpr ⟨He.noat_ok (c.fact 40 (f := .noat "Program" "modulus") rfl), (List.forall_mem_cons.mpr ⟨He.noat_ok (c.fact 39 (f := .noat "Program" "cells") rfl), (List.forall_mem_cons.mpr ⟨He.noat_ok (c.fact 38 (f := .noat "Program" "inputs") rfl), (List.forall_mem_cons.mpr ⟨He.noat_ok (c.fact 37 (f := .noat "Program" "steps") rfl), (fun _ h => nomatch h)⟩)⟩)⟩)⟩)⟩ ⟨_, (He.glo_ok X G (c.fact 20 (f := .glo "Vault") rfl)), He.cls_ok (c.fact 21 (f := .cls "Vault") rfl), (List.forall_mem_cons.mpr ⟨He.noat_ok (c.fact 19 (f := .noat "Vault" "modulus") rfl), (List.forall_mem_cons.mpr ⟨He.noat_ok (c.fact 18 (f := .noat "Vault" "cells") rfl), (List.forall_mem_cons.mpr ⟨He.noat_ok (c.fact 17 (f := .noat "Vault" "loans") rfl), (fun _ h => nomatch h)⟩)⟩)⟩)⟩
  have D_inverse_step := d_inverse_step (P := P) (w := w) (base := base) FD_inverse_step (He.glo_ok X G (c.fact 70 (f := .glo "inverse_step") rfl)) D_inverse_of
  have D_Vault_recall := d_Vault_recall (P := P) (w := w) (base := base) FD_Vault_recall (He.glo_ok X G (c.fact 20 (f := .glo "Vault") rfl)) (He.cls_ok (c.fact 21 (f := .cls "Vault") rfl)) (He.meth_ok (c.fact 71 (f := .meth "Vault" "recall") rfl)) (He.free_ok X G (c.fact 3 (f := .free "len") rfl)) D_Vault_found D_Vault_blocked D_Vault_perform D_inverse_step (xcl_of (He.glo_ok X G (c.fact 66 (f := .glo "Busy") rfl)) (c.fact 67 (f := .exc "Busy") rfl)) ⟨_, (He.glo_ok X G (c.fact 34 (f := .glo "Loan") rfl)), He.cls_ok (c.fact 35 (f := .cls "Loan") rfl), (List.forall_mem_cons.mpr ⟨He.noat_ok (c.fact 33 (f := .noat "Loan" "program") rfl), (List.forall_mem_cons.mpr ⟨He.noat_ok (c.fact 32 (f := .noat "Loan" "places") rfl), (List.forall_mem_cons.mpr ⟨He.noat_ok (c.fact 31 (f := .noat "Loan" "given") rfl), (List.forall_mem_cons.mpr ⟨He.noat_ok (c.fact 30 (f := .noat "Loan" "begun") rfl), (List.forall_mem_cons.mpr ⟨He.noat_ok (c.fact 29 (f := .noat "Loan" "done") rfl), (fun _ h => nomatch h)⟩)⟩)⟩)⟩)⟩)⟩ ⟨_, (He.glo_ok X G (c.fact 41 (f := .glo "Program") rfl)), He.cls_ok (c.fact 42 (f := .cls "Program") rfl), (List.forall_mem_cons.mpr ⟨He.noat_ok (c.fact 40 (f := .noat "Program" "modulus") rfl), (List.forall_mem_cons.mpr ⟨He.noat_ok (c.fact 39 (f := .noat "Program" "cells") rfl), (List.forall_mem_cons.mpr ⟨He.noat_ok (c.fact 38 (f := .noat "Program" "inputs") rfl), (List.forall_mem_cons.mpr ⟨He.noat_ok (c.fact 37 (f := .noat "Program" "steps") rfl), (fun _ h => nomatch h)⟩)⟩)⟩)⟩)⟩ ⟨_, (He.glo_ok X G (c.fact 20 (f := .glo "Vault") rfl)), He.cls_ok (c.fact 21 (f := .cls "Vault") rfl), (List.forall_mem_cons.mpr ⟨He.noat_ok (c.fact 19 (f := .noat "Vault" "modulus") rfl), (List.forall_mem_cons.mpr ⟨He.noat_ok (c.fact 18 (f := .noat "Vault" "cells") rfl), (List.forall_mem_cons.mpr ⟨He.noat_ok (c.fact 17 (f := .noat "Vault" "loans") rfl), (fun _ h => nomatch h)⟩)⟩)⟩)⟩
  have D__law_called := d__law_called (P := P) (w := w) (base := base) FD__law_called (He.glo_ok X G (c.fact 78 (f := .glo "_law_called") rfl)) D_Vault_advance D_Vault_answer D_Vault_recall (hnd_of (He.glo_ok X G (c.fact 66 (f := .glo "Busy") rfl)) (List.forall_mem_cons.mpr ⟨⟨(He.glo_ok X G (c.fact 76 (f := .glo "BrimfulError") rfl)), He.exm_ok (c.fact 77 (f := .exm "BrimfulError" "Busy" false) rfl)⟩, (List.forall_mem_cons.mpr ⟨⟨(He.glo_ok X G (c.fact 43 (f := .glo "BadStep") rfl)), He.exm_ok (c.fact 75 (f := .exm "BadStep" "Busy" false) rfl)⟩, (List.forall_mem_cons.mpr ⟨⟨(He.glo_ok X G (c.fact 12 (f := .glo "BadMemory") rfl)), He.exm_ok (c.fact 74 (f := .exm "BadMemory" "Busy" false) rfl)⟩, (List.forall_mem_cons.mpr ⟨⟨(He.glo_ok X G (c.fact 66 (f := .glo "Busy") rfl)), He.exm_ok (c.fact 73 (f := .exm "Busy" "Busy" true) rfl)⟩, (List.forall_mem_cons.mpr ⟨⟨(He.glo_ok X G (c.fact 55 (f := .glo "BadTicket") rfl)), He.exm_ok (c.fact 72 (f := .exm "BadTicket" "Busy" false) rfl)⟩, (fun _ h => nomatch h)⟩)⟩)⟩)⟩)⟩))
  have D_is_factor := d_is_factor (P := P) (w := w) (base := base) FD_is_factor (He.glo_ok X G (c.fact 79 (f := .glo "is_factor") rfl)) (He.free_ok X G (c.fact 6 (f := .free "isinstance") rfl)) (He.free_ok X G (c.fact 48 (f := .free "tuple") rfl)) (He.free_ok X G (c.fact 3 (f := .free "len") rfl)) D_is_number
  have D_is_add := d_is_add (P := P) (w := w) (base := base) FD_is_add (He.glo_ok X G (c.fact 81 (f := .glo "is_add") rfl)) (He.free_ok X G (c.fact 6 (f := .free "isinstance") rfl)) (He.free_ok X G (c.fact 48 (f := .free "tuple") rfl)) (He.free_ok X G (c.fact 3 (f := .free "len") rfl)) (gi (He.int_ok X G (c.fact 80 (f := .int "FACTORS"  3) rfl))) D_is_number D_is_factor
  have D_is_table := d_is_table (P := P) (w := w) (base := base) FD_is_table (He.glo_ok X G (c.fact 82 (f := .glo "is_table") rfl)) (He.free_ok X G (c.fact 6 (f := .free "isinstance") rfl)) (He.free_ok X G (c.fact 48 (f := .free "tuple") rfl)) (He.free_ok X G (c.fact 3 (f := .free "len") rfl)) D_is_number
  have D_is_look := d_is_look (P := P) (w := w) (base := base) FD_is_look (He.glo_ok X G (c.fact 83 (f := .glo "is_look") rfl)) D_is_number D_is_integer D_is_table
  have D_is_step := d_is_step (P := P) (w := w) (base := base) FD_is_step (He.glo_ok X G (c.fact 84 (f := .glo "is_step") rfl)) (He.free_ok X G (c.fact 6 (f := .free "isinstance") rfl)) (He.free_ok X G (c.fact 48 (f := .free "tuple") rfl)) (He.free_ok X G (c.fact 3 (f := .free "len") rfl)) D_is_add D_is_number D_inverse_of D_is_look
  have D_is_prime := d_is_prime (P := P) (w := w) (base := base) FD_is_prime (He.glo_ok X G (c.fact 85 (f := .glo "is_prime") rfl)) 
  have D_check_steps := d_check_steps (P := P) (w := w) (base := base) FD_check_steps (He.glo_ok X G (c.fact 86 (f := .glo "check_steps") rfl)) (He.free_ok X G (c.fact 6 (f := .free "isinstance") rfl)) (He.free_ok X G (c.fact 11 (f := .free "list") rfl)) (He.free_ok X G (c.fact 3 (f := .free "len") rfl)) D_is_step D_is_prime (xcl_of (He.glo_ok X G (c.fact 43 (f := .glo "BadStep") rfl)) (c.fact 44 (f := .exc "BadStep") rfl))
  have D_Program___init__ := d_Program___init__ (P := P) (w := w) (base := base) FD_Program___init__ (He.glo_ok X G (c.fact 41 (f := .glo "Program") rfl)) (He.mkr_ok (c.fact 90 (f := .mkr "Program") rfl)) (He.free_ok X G (c.fact 11 (f := .free "list") rfl)) (gi (He.int_ok X G (c.fact 15 (f := .int "MODULUS"  1000000000) rfl))) (gi (He.int_ok X G (c.fact 87 (f := .int "CELLS"  60) rfl))) (gi (He.int_ok X G (c.fact 88 (f := .int "INPUTS"  60) rfl))) (gi (He.int_ok X G (c.fact 89 (f := .int "STEPS"  20000) rfl))) D_is_integer D_check_steps (xcl_of (He.glo_ok X G (c.fact 43 (f := .glo "BadStep") rfl)) (c.fact 44 (f := .exc "BadStep") rfl)) ⟨_, (He.glo_ok X G (c.fact 41 (f := .glo "Program") rfl)), He.cls_ok (c.fact 42 (f := .cls "Program") rfl), (List.forall_mem_cons.mpr ⟨He.noat_ok (c.fact 40 (f := .noat "Program" "modulus") rfl), (List.forall_mem_cons.mpr ⟨He.noat_ok (c.fact 39 (f := .noat "Program" "cells") rfl), (List.forall_mem_cons.mpr ⟨He.noat_ok (c.fact 38 (f := .noat "Program" "inputs") rfl), (List.forall_mem_cons.mpr ⟨He.noat_ok (c.fact 37 (f := .noat "Program" "steps") rfl), (fun _ h => nomatch h)⟩)⟩)⟩)⟩)⟩
  have D__law_move := d__law_move (P := P) (w := w) (base := base) FD__law_move (He.glo_ok X G (c.fact 91 (f := .glo "_law_move") rfl)) (He.free_ok X G (c.fact 3 (f := .free "len") rfl)) (He.free_ok X G (c.fact 47 (f := .free "min") rfl)) (He.free_ok X G (c.fact 11 (f := .free "list") rfl)) (He.free_ok X G (c.fact 1 (f := .free "range") rfl)) D_Vault_open_loans D__law_draw D__law_loan D_Program___init__ D__law_number D_Vault_lend D__law_places D__law_called
  have DG := dr__law_equal__law_all_equal (P := P) (w := w) (base := base) FD__law_equal (He.glo_ok X G (c.fact 93 (f := .glo "_law_equal") rfl)) FD__law_all_equal (He.glo_ok X G (c.fact 94 (f := .glo "_law_all_equal") rfl)) (He.free_ok X G (c.fact 6 (f := .free "isinstance") rfl)) (He.free_ok X G (c.fact 11 (f := .free "list") rfl)) (He.free_ok X G (c.fact 3 (f := .free "len") rfl)) (He.free_ok X G (c.fact 48 (f := .free "tuple") rfl)) (He.free_ok X G (c.fact 8 (f := .free "bool") rfl)) (He.free_ok X G (c.fact 7 (f := .free "int") rfl)) (He.free_ok X G (c.fact 92 (f := .free "str") rfl)) (He.free_ok X G (c.fact 1 (f := .free "range") rfl)) 9
  have D__law_equal : Dfn P w K mg base 9 "_law_equal" 2 m__law_equal := DG.1
  have D__law_all_equal : Dfn P w K mg base 9 "_law_all_equal" 2 m__law_all_equal := DG.2
  have D_Vault_memory := d_Vault_memory (P := P) (w := w) (base := base) FD_Vault_memory (He.glo_ok X G (c.fact 20 (f := .glo "Vault") rfl)) (He.cls_ok (c.fact 21 (f := .cls "Vault") rfl)) PO_Vault_memory (He.free_ok X G (c.fact 11 (f := .free "list") rfl)) ⟨_, (He.glo_ok X G (c.fact 20 (f := .glo "Vault") rfl)), He.cls_ok (c.fact 21 (f := .cls "Vault") rfl), (List.forall_mem_cons.mpr ⟨He.noat_ok (c.fact 19 (f := .noat "Vault" "modulus") rfl), (List.forall_mem_cons.mpr ⟨He.noat_ok (c.fact 18 (f := .noat "Vault" "cells") rfl), (List.forall_mem_cons.mpr ⟨He.noat_ok (c.fact 17 (f := .noat "Vault" "loans") rfl), (fun _ h => nomatch h)⟩)⟩)⟩)⟩
  have D__law_given_back := d__law_given_back (P := P) (w := w) (base := base) FD__law_given_back (He.glo_ok X G (c.fact 95 (f := .glo "_law_given_back") rfl)) (He.free_ok X G (c.fact 1 (f := .free "range") rfl)) (He.free_ok X G (c.fact 3 (f := .free "len") rfl)) D_Vault_open_loans D_Vault_recall D__law_equal D_Vault_memory
  exact w_law FD_law (He.free_ok X G (c.fact 1 (f := .free "range") rfl)) D__law_numbers D__law_modulus D__law_draw D__law_house D__law_move D__law_given_back
end E
open PySem PySem.W PySem.Calls PyProof.Rows
theorem PySem.Challenge.cw_brimful_k54_whole_loans_give_back_holds : PySem.Challenge.rw_brimful_k54_whole_loans_give_back.Holds := by
  w_on; o_law
  refine HandSHeadRun.head_any (r := OpenLaw.row PySem.Challenge.rw_brimful_k54_whole_loans_give_back) (q := view (OpenLaw.row PySem.Challenge.rw_brimful_k54_whole_loans_give_back).prog [56]) (H := E.hk) (ob := E.ob) (M := 20000) (loose := E.loose) (d := HandSHeadRun.topDef (OpenLaw.row PySem.Challenge.rw_brimful_k54_whole_loans_give_back).prog 56) (kwd := []) E.ob_eq
    (by kernel_rfl) (fun s => by kernel_rfl) E.run (by kernel_rfl) (by kernel_rfl) (by kernel_rfl) (by rfl) (by first | assumption | decide +kernel) (by decide +kernel) ⟨rfl, rfl, rfl, rfl, rfl, by decide +kernel⟩ ?hw ?hc
  case hw => w_witness2
  case hc =>
    refine L2.walk_ofE (l := PySem.Challenge.rw_brimful_k54_whole_loans_give_back) (n := 63) (k := 11) (x := "_law_script") (CX := L2.CX0) rfl (by decide) (by kernel_rfl) ⟨rfl, by decide, by decide⟩ ?F (fun _ _ _ _ z => z)
    intro w mg fa h Y GN hmg0
    obtain ⟨K, KX, c, cx⟩ := Y
    have hmg : mg ("law" : PySem.Str) = some (.ref fa) := by
      have e : (HandSHeadRun.topDef (OpenLaw.row PySem.Challenge.rw_brimful_k54_whole_loans_give_back).prog 56).name = ("law" : PySem.Str) := by kernel_rfl
      rw [← e]
      exact hmg0
    obtain ⟨fd, hb, hF⟩ := E.facts (P := (PySem.Challenge.rw_brimful_k54_whole_loans_give_back).prog) (w := w) KX GN hmg c cx
    exact ⟨K, fd, fun vs H Q _ => DI.spD K mg 1 G.m_law vs H Q fun _ _ _ => False, KX, hb, fun H a ns hl hO hS => DI.sp_law G.law_true H a ns hl hO hS, fun base h1 h2 => DI.calm_of (hF base h1 h2)⟩
#print axioms PySem.Challenge.cw_brimful_k54_whole_loans_give_back_holds

end
