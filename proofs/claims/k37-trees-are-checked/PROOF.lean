import PyProof.Rows.All
import Wide.All
import OpenK.AllK
import Wide.FinOn
import HandS.ForMost
import HandS.ForExc
import HandS.TupAny
import HandS.CallSlots
import HandS.Flow
import HandS.Style
import HandS.Wide
import KE.DataEq
import HandS.IsInst
import HandS.Defaults
import HandS.Iter
import HandS.Zip
import KE.GoesZip
import KE.GoesMore
import KE.GoesEnum
import HandS.SortInts
import HandS.TryOnly
import HandS.ExcIs
import HandS.ExcOwn
import HandS.HeadHook1
import HandS.HeadHook2
import PyProof.TupleOfSeq
import HandS.ExcValue
import HandS.Dict
import HandS.More
import HandS.HeadHook3
import KE.KIsAll
import HandS.List
import KE.KExcPX
import KE.KOpsOwn
import HandS.Flt
import HandS.NoneIn
import HandS.Codes
import KE.KStateDown
import Lean
import HandS.Property
import HandS.Text
import HandS.DictTup
import HandS.FStr
import HandS.StrMore
import HandS.TryMany
import HandS.RaiseFrom
import HandS.SuiteRaise
import HandS.Head0
import HandS.Head1
import HandS.Head2
import HandS.HeadEnd
import PySem.Challenge.RW_brimful_k37_trees_are_checked
section
set_option Elab.async false
set_option linter.all false
set_option maxRecDepth 100000
set_option maxHeartbeats 2000000
/-! DI1: plain data, the data heap, what expressions and statements do to them. -/
namespace DI
open PySem L2

inductive D where
  | non | bl (b : Bool) | int (i : Int) | str (x : Str)
  | tup (ds : List D) | fl (ds : List D) | ref (i : Nat)

/-- a mutable thing -/
inductive O where
  | lst (ds : List D) | dic (kvs : List (Str × D)) | dct (kvs : List (List D × D)) | ins (c : Str) (fs : List (Str × D))

abbrev Hd := List O
abbrev Ev := List (Option D)
/-- an outcome: a value, or an own exception by its class's name -/
inductive Rs (α : Type) where
  | ok (a : α) (M : Hd) | er (c : Str) (M : Hd)
abbrev EF := Ev → Hd → Option (Rs D)
abbrev TF := Ev → Hd → Option (Rs Bool)
abbrev AF := Ev → Hd → Option (Rs (List D))
inductive Fl where
  | nx (r : Ev) | rt (d : D) | bk (r : Ev) | ct (r : Ev) | xx (c : Str) (r : Ev)
abbrev SF := Ev → Hd → Option (Fl × Hd)

def bnd {α β : Type} (x : Option (Rs α)) (k : α → Hd → Option (Rs β)) : Option (Rs β) := match x with
  | some (.ok a M) => k a M
  | some (.er c M) => some (.er c M)
  | none => none
@[simp] theorem bnd_ok {α β : Type} (a : α) (M : Hd) (k : α → Hd → Option (Rs β)) : bnd (some (.ok a M)) k = k a M := rfl
@[simp] theorem bnd_er {α β : Type} (c : Str) (M : Hd) (k : α → Hd → Option (Rs β)) : bnd (some (.er c M)) k = some (.er c M) := rfl
@[simp] theorem bnd_none {α β : Type} (k : α → Hd → Option (Rs β)) : bnd none k = none := rfl
/-- an expression's outcome within a statement -/
def exB {α : Type} (x : Option (Rs α)) (r : Ev) (k : α → Hd → Option (Fl × Hd)) : Option (Fl × Hd) := match x with
  | some (.ok a M) => k a M
  | some (.er c M) => some (.xx c r, M)
  | none => none
@[simp] theorem exB_ok {α : Type} (a : α) (M : Hd) (r : Ev) (k : α → Hd → Option (Fl × Hd)) : exB (some (.ok a M)) r k = k a M := rfl
@[simp] theorem exB_er {α : Type} (c : Str) (M : Hd) (r : Ev) (k : α → Hd → Option (Fl × Hd)) : exB (some (.er c M) : Option (Rs α)) r k = some (.xx c r, M) := rfl
@[simp] theorem exB_none {α : Type} (r : Ev) (k : α → Hd → Option (Fl × Hd)) : exB (none : Option (Rs α)) r k = none := rfl
/-- a pure outcome -/
def pr {α : Type} (M : Hd) (x : Option α) : Option (Rs α) := match x with
  | some a => some (.ok a M)
  | none => none
@[simp] theorem pr_some {α : Type} (M : Hd) (a : α) : pr M (some a) = some (.ok a M) := rfl
@[simp] theorem pr_none {α : Type} (M : Hd) : pr M (none : Option α) = none := rfl
/-- a thing of the heap -/
def at? (M : Hd) (i : Nat) : Option O := M[i]?

/-! ### expressions -/
def eVar (i : Nat) : EF := fun r M => match r[i]? with
  | some (some d) => some (.ok d M)
  | _ => none
def eC (d : D) : EF := fun _ M => some (.ok d M)
abbrev G2 := D → D → Hd → Option (Rs D)
def eOp (g : G2) (fa fb : EF) : EF := fun r M => bnd (fa r M) fun x M1 => bnd (fb r M1) fun y M2 => g x y M2
def eUn (g : D → Hd → Option (Rs D)) (fa : EF) : EF := fun r M => bnd (fa r M) fun x M1 => g x M1
def eCall (m : List D → Hd → Option (Rs D)) (fa : AF) : EF := fun r M => bnd (fa r M) fun ds M1 => m ds M1
def aNil : AF := fun _ M => some (.ok [] M)
def aCons (f : EF) (g : AF) : AF := fun r M => bnd (f r M) fun d M1 => bnd (g r M1) fun ds M2 => some (.ok (d :: ds) M2)
def eTup (fa : AF) : EF := fun r M => bnd (fa r M) fun ds M1 => if ds.length ≤ 16777216 then some (.ok (.tup ds) M1) else none
def eLst (fa : AF) : EF := fun r M => bnd (fa r M) fun ds M1 => if ds.length ≤ 16777216 then some (.ok (.ref M1.length) (M1 ++ [.lst ds])) else none
def eIf (t : TF) (fa fb : EF) : EF := fun r M => bnd (t r M) fun b M1 => if b = true then fa r M1 else fb r M1
/-- two comparisons in a chain -/
def eChain (g g' : G2) (fa fb fc : EF) : EF := fun r M => bnd (fa r M) fun x M1 => bnd (fb r M1) fun y M2 => bnd (g x y M2) fun z M3 => match z with
  | .bl true => bnd (fc r M3) fun u M4 => g' y u M4
  | .bl false => some (.ok (.bl false) M3)
  | _ => none
/-- tests -/
def bOf (d : D) (M : Hd) : Option (Rs Bool) := match d with
  | .bl b => some (.ok b M)
  | _ => none
def tVal (f : EF) : TF := fun r M => bnd (f r M) bOf
def truD (d : D) (M : Hd) : Option (Rs Bool) := match d with
  | .non => some (.ok false M)
  | .bl b => some (.ok b M)
  | .int i => some (.ok (i != 0) M)
  | .str x => if x.length ≤ 16777216 then some (.ok ((x.length : Int) != 0) M) else none
  | .tup ds => some (.ok (!ds.isEmpty) M)
  | .fl ds => some (.ok (!ds.isEmpty) M)
  | .ref i => match M[i]? with
    | some (.lst ds) => some (.ok (!ds.isEmpty) M)
    | _ => none
def tTru (f : EF) : TF := fun r M => bnd (f r M) truD
def tAnd (t u : TF) : TF := fun r M => bnd (t r M) fun b M1 => if b = true then u r M1 else some (.ok false M1)
def tOr (t u : TF) : TF := fun r M => bnd (t r M) fun b M1 => if b = true then some (.ok true M1) else u r M1
def tNot (t : TF) : TF := fun r M => bnd (t r M) fun b M1 => some (.ok (!b) M1)
/-- and, or, not as values -/
def eAnd (f g : EF) : EF := fun r M => bnd (f r M) fun d M1 => match d with
  | .bl true => g r M1
  | .bl false => some (.ok (.bl false) M1)
  | _ => none
def eOr (f g : EF) : EF := fun r M => bnd (f r M) fun d M1 => match d with
  | .bl true => some (.ok (.bl true) M1)
  | .bl false => g r M1
  | _ => none
def eNot (f : EF) : EF := fun r M => bnd (f r M) fun d M1 => match d with
  | .bl b => some (.ok (.bl (!b)) M1)
  | _ => none

/-! ### operators on data -/
def addG : G2 := fun x y M => match x, y with
  | .int a, .int b => some (.ok (.int (a + b)) M)
  | .str a, .str b => if a.length + b.length ≤ 16777216 then some (.ok (.str (a ++ b)) M) else none
  | .tup a, .tup b => if a.length + b.length ≤ 16777216 then some (.ok (.tup (a ++ b)) M) else none
  | .ref i, .ref j => match M[i]?, M[j]? with
    | some (.lst a), some (.lst b) => if a.length + b.length ≤ 16777216 then some (.ok (.ref M.length) (M ++ [.lst (a ++ b)])) else none
    | _, _ => none
  | _, _ => none
def addIG : G2 := fun x y M => match x, y with
  | .int a, .int b => some (.ok (.int (a + b)) M)
  | _, _ => none
def CMul2 (i j : Int) : Prop := (-(2 ^ 64) < i ∧ i < 2 ^ 64) ∨ (-(2 ^ 64) < j ∧ j < 2 ^ 64)
open Classical in
noncomputable def mulIG : G2 := fun x y M => match x, y with
  | .int a, .int b => if CMul2 a b then some (.ok (.int (a * b)) M) else none
  | _, _ => none
def subG : G2 := fun x y M => match x, y with
  | .int a, .int b => some (.ok (.int (a - b)) M)
  | _, _ => none
def MulOk (a b : Int) : Prop := (-(2 ^ 64) < a ∧ a < 2 ^ 64) ∨ (-(2 ^ 64) < b ∧ b < 2 ^ 64) ∨ a.natAbs.log2 + b.natAbs.log2 < 1000000
open Classical in
noncomputable def mulG : G2 := fun x y M => match x, y with
  | .int a, .int b => if MulOk a b then some (.ok (.int (a * b)) M) else none
  | _, _ => none
def divG : G2 := fun x y M => match x, y with
  | .int a, .int b => if 0 < b ∧ b.natAbs.log2 < 9000 then some (.ok (.int (a / b)) M) else none
  | _, _ => none
def modG : G2 := fun x y M => match x, y with
  | .int a, .int b => if 0 < b then some (.ok (.int (a % b)) M) else none
  | _, _ => none
def powG : G2 := fun x y M => match x, y with
  | .int a, .int b => if 0 ≤ b ∧ b ≤ 1000000 ∧ a.natAbs < 2 ^ 64 then some (.ok (.int (a ^ b.toNat)) M) else none
  | _, _ => none
def shlG : G2 := fun x y M => match x, y with
  | .int a, .int b => if 0 ≤ b ∧ b ≤ 1000000 ∧ a.natAbs < 2 ^ 64 then some (.ok (.int (a * 2 ^ b.toNat)) M) else none
  | _, _ => none
def negG : D → Hd → Option (Rs D) := fun x M => match x with
  | .int a => some (.ok (.int (-a)) M)
  | _ => none
def ltG : G2 := fun x y M => match x, y with
  | .int a, .int b => some (.ok (.bl (decide (a < b))) M)
  | _, _ => none
def leG : G2 := fun x y M => match x, y with
  | .int a, .int b => some (.ok (.bl (decide (a ≤ b))) M)
  | _, _ => none
def gtG : G2 := fun x y M => match x, y with
  | .int a, .int b => some (.ok (.bl (decide (b < a))) M)
  | _, _ => none
def geG : G2 := fun x y M => match x, y with
  | .int a, .int b => some (.ok (.bl (decide (b ≤ a))) M)
  | _, _ => none
/-- data without identity, for == (n: how deep) -/
def toP (M : Hd) : Nat → D → Option PyData
  | _, .non => some .none
  | _, .bl b => some (.bool b)
  | _, .int i => some (.int i)
  | _, .str x => some (.str x)
  | n + 1, .tup ds => (ds.mapM (toP M n)).map .tuple
  | n + 1, .fl ds => (ds.mapM (toP M n)).map .list
  | n + 1, .ref i => (match M[i]? with
    | some (.lst ds) => (ds.mapM (toP M n)).map .list
    | _ => none)
  | _, _ => none
def eqG : G2 := fun x y M => match x, y with
  | .int a, .int b => some (.ok (.bl (a == b)) M)
  | .str a, .str b => some (.ok (.bl (a == b)) M)
  | x, y => match toP M 9 x, toP M 9 y with
    | some d, some e => some (.ok (.bl (PyData.eqv d e)) M)
    | _, _ => none
def neG : G2 := fun x y M => match x, y with
  | .int a, .int b => some (.ok (.bl (!(a == b))) M)
  | .str a, .str b => some (.ok (.bl (!(a == b))) M)
  | x, y => match toP M 9 x, toP M 9 y with
    | some d, some e => some (.ok (.bl (!PyData.eqv d e)) M)
    | _, _ => none
def D.isNon : D → Bool
  | .non => true
  | _ => false
def isN (f : EF) : EF := fun r M => bnd (f r M) fun d M1 => some (.ok (.bl d.isNon) M1)
def isNN (f : EF) : EF := fun r M => bnd (f r M) fun d M1 => some (.ok (.bl (!d.isNon)) M1)
/-- len -/
def lenD : D → Hd → Option (Rs D) := fun x M => match x with
  | .str y => if y.length ≤ 16777216 then some (.ok (.int y.length) M) else none
  | .tup ds => some (.ok (.int ds.length) M)
  | .fl ds => some (.ok (.int ds.length) M)
  | .ref i => match M[i]? with
    | some (.lst ds) => some (.ok (.int ds.length) M)
    | _ => none
  | _ => none
/-- the items of a list or tuple -/
def itemsD (x : D) (M : Hd) : Option (List D) := match x with
  | .tup ds => some ds
  | .fl ds => some ds
  | .ref i => match M[i]? with
    | some (.lst ds) => some ds
    | _ => none
  | _ => none
/-- x[i] of a list, a tuple, a text -/
def ixG : G2 := fun x y M => match y with
  | .int i => (match x with
    | .tup ds => pr M (atI ds i)
    | .fl ds => pr M (atI ds i)
    | .ref p => (match M[p]? with
      | some (.lst ds) => pr M (atI ds i)
      | _ => none)
    | .str z => if z.length ≤ 16777216 then pr M ((atI z.cps.toList i).map fun c => .str ⟨#[c]⟩) else none
    | _ => none)
  | _ => none

/-- types -/
inductive Ty where
  | non | bl | int | str | tup | lst | dct
  deriving DecidableEq
def Ty.nm : Ty → String
  | .non => "NoneType" | .bl => "bool" | .int => "int" | .str => "str" | .tup => "tuple" | .lst => "list" | .dct => "dict"
def Ty.sub : Ty → Ty → Bool
  | .bl, .int => true
  | .non, .non => true | .bl, .bl => true | .int, .int => true | .str, .str => true | .tup, .tup => true | .lst, .lst => true | .dct, .dct => true
  | _, _ => false
def tyD (d : D) (M : Hd) : Option Ty := match d with
  | .non => some .non
  | .bl _ => some .bl
  | .int _ => some .int
  | .str _ => some .str
  | .tup _ => some .tup
  | .fl _ => some .lst
  | .ref i => match M[i]? with
    | some (.lst _) => some .lst
    | some (.dic _) => some .dct
    | some (.dct _) => some .dct
    | _ => none
def isiG (T : Ty) : D → Hd → Option (Rs D) := fun d M => match tyD d M with
  | some t => some (.ok (.bl (t.sub T)) M)
  | none => none
/-- list(x), tuple(x) -/
def listG : D → Hd → Option (Rs D) := fun d M => match itemsD d M with
  | some ds => some (.ok (.ref M.length) (M ++ [.lst ds]))
  | none => none
def tupleG : D → Hd → Option (Rs D) := fun d M => match d with
  | .tup ds => some (.ok (.tup ds) M)
  | .fl ds => some (.ok (.tup ds) M)
  | .ref i => (match M[i]? with
    | some (.lst ds) => some (.ok (.tup ds) M)
    | _ => none)
  | _ => none
def max2 : List D → Hd → Option (Rs D) := fun ds M => match ds with
  | [.int i, .int j] => some (.ok (.int (if j > i then j else i)) M)
  | _ => none
def min2 : List D → Hd → Option (Rs D) := fun ds M => match ds with
  | [.int i, .int j] => some (.ok (.int (if j < i then j else i)) M)
  | _ => none
/-- x.m(..) of a list -/
def eLm (g : Nat → List D → List D → Hd → Option (Rs D)) (fo : EF) (fa : AF) : EF := fun r M => bnd (fo r M) fun x M1 => match x with
  | .ref i => (match M1[i]? with
    | some (.lst _) => bnd (fa r M1) fun as M2 => (match M2[i]? with
      | some (.lst ds) => g i ds as M2
      | _ => none)
    | _ => none)
  | _ => none
def appendG (i : Nat) (ds as : List D) (M : Hd) : Option (Rs D) := match as with
  | [y] => if ds.length < 16777216 then some (.ok .non (M.set i (.lst (ds ++ [y])))) else none
  | _ => none
def popG (i : Nat) (ds as : List D) (M : Hd) : Option (Rs D) := match as, ds[ds.length - 1]? with
  | [], some y => some (.ok y (M.set i (.lst ds.dropLast)))
  | _, _ => none
def extendG (i : Nat) (ds as : List D) (M : Hd) : Option (Rs D) := match as with
  | [.ref j] => (match M[j]? with
    | some (.lst es) => if ds.length + es.length ≤ 16777216 then some (.ok .non (M.set i (.lst (ds ++ es)))) else none
    | _ => none)
  | _ => none
/-- slices -/
abbrev OF := Ev → Hd → Option (Rs (Option Int))
def oNone : OF := fun _ M => some (.ok none M)
def oSome (f : EF) : OF := fun r M => bnd (f r M) fun d M1 => match d with
  | .int i => some (.ok (some i) M1)
  | _ => none
def cutD {α : Type} (xs : List α) (lo hi : Option Int) : List α := (xs.drop (HT.sIx xs.length 0 lo)).take (HT.sIx xs.length xs.length hi - HT.sIx xs.length 0 lo)
def sliceD (d : D) (lo hi : Option Int) (M : Hd) : Option (Rs D) := match d with
  | .tup ds => some (.ok (.tup (cutD ds lo hi)) M)
  | .fl ds => some (.ok (.ref M.length) (M ++ [.lst (cutD ds lo hi)]))
  | .ref i => (match M[i]? with
    | some (.lst ds) => some (.ok (.ref M.length) (M ++ [.lst (cutD ds lo hi)]))
    | _ => none)
  | _ => none
def eSl (f : EF) (lo hi : OF) : EF := fun r M => bnd (f r M) fun d M1 => bnd (lo r M1) fun l M2 => bnd (hi r M2) fun h M3 => sliceD d l h M3
/-- x[::-1] -/
def revG : D → Hd → Option (Rs D) := fun d M => match d with
  | .fl ds => some (.ok (.ref M.length) (M ++ [.lst ds.reverse]))
  | .ref i => (match M[i]? with
    | some (.lst ds) => some (.ok (.ref M.length) (M ++ [.lst ds.reverse]))
    | _ => none)
  | _ => none
def eCB (g : List D → Hd → Option (Rs D)) (fa : AF) : EF := fun r M => bnd (fa r M) fun ds M1 => g ds M1

/-! ### statements -/
def sNil : SF := fun r M => some (.nx r, M)
def sSeq (f g : SF) : SF := fun r M => match f r M with
  | some (.nx r1, M1) => g r1 M1
  | o => o
def sAsg (i : Nat) (f : EF) : SF := fun r M => exB (f r M) r fun d M1 => some (.nx (r.set i (some d)), M1)
def sPar (i j : Nat) (f g : EF) : SF := fun r M => exB (f r M) r fun d M1 => exB (g r M1) r fun e M2 => some (.nx ((r.set i (some d)).set j (some e)), M2)
def sAug (g : G2) (i : Nat) (f : EF) : SF := fun r M => match r[i]? with
  | some (some d) => exB (f r M) r fun e M1 => exB (g d e M1) r fun z M2 => some (.nx (r.set i (some z)), M2)
  | _ => none
def sDrop (f : EF) : SF := fun r M => exB (f r M) r fun _ M1 => some (.nx r, M1)
def sRet (f : EF) : SF := fun r M => exB (f r M) r fun d M1 => some (.rt d, M1)
def sRetN : SF := fun _ M => some (.rt .non, M)
def sIf (t : TF) (f g : SF) : SF := fun r M => exB (t r M) r fun b M1 => if b = true then f r M1 else g r M1
def sBreak : SF := fun r M => some (.bk r, M)
def sCont : SF := fun r M => some (.ct r, M)
def sRaise (c : Str) : SF := fun r M => some (.xx c r, M)

/-- o[i] = e (e first) -/
def sSetI (f fo fi : EF) : SF := fun r M => exB (f r M) r fun d M1 => exB (fo r M1) r fun o M2 => exB (fi r M2) r fun i M3 => match o, i with
  | .ref p, .int j => (match M3[p]? with
    | some (.lst ds) => (match ixN ds.length j with
      | some n => some (.nx r, M3.set p (.lst (ds.set n d)))
      | none => none)
    | _ => none)
  | _, _ => none

/-! ### targets -/
inductive Tg where
  | nm (i : Nat) | tp (l : List Nat)
def setAll : List Nat → List D → Ev → Option Ev
  | [], [], r => some r
  | i :: is, d :: ds, r => setAll is ds (r.set i (some d))
  | _, _, _ => none
def Tg.put (t : Tg) (d : D) (r : Ev) : Option Ev := match t with
  | .nm i => some (r.set i (some d))
  | .tp l => match d with
    | .tup ds => setAll l ds r
    | _ => none
def Tg.sl : Tg → List Nat
  | .nm i => [i]
  | .tp l => l
def sAsgT (l : List Nat) (f : EF) : SF := fun r M => exB (f r M) r fun d M1 => match (Tg.tp l).put d r with
  | some r1 => some (.nx r1, M1)
  | none => none

/-! ### loops -/
abbrev Gd := List (Nat × List D)
/-- the lists that are walked stand as they stood -/
def Still (gs : Gd) (M : Hd) : Prop := ∀ p ∈ gs, M[p.1]? = some (.lst p.2)
@[simp] theorem still_nil (M : Hd) : Still [] M ↔ True := ⟨fun _ => trivial, fun _ _ h => nomatch h⟩
@[simp] theorem still_one (p : Nat × List D) (gs : Gd) (M : Hd) : Still (p :: gs) M ↔ (M[p.1]? = some (.lst p.2) ∧ Still gs M) := by
  unfold Still
  simp only [List.forall_mem_cons]
abbrev IF := Ev → Hd → Option (Rs (List D × Gd))
open Classical in
noncomputable def forL (gs : Gd) (t : Tg) (g : SF) : List D → SF
  | [], r, M => if Still gs M then some (.nx r, M) else none
  | d :: ds, r, M => if Still gs M then (match t.put d r with
    | none => none
    | some r1 => match g r1 M with
      | some (.nx r2, M2) => forL gs t g ds r2 M2
      | some (.ct r2, M2) => forL gs t g ds r2 M2
      | some (.bk r2, M2) => some (.nx r2, M2)
      | o => o) else none
noncomputable def sFor (f : IF) (t : Tg) (g : SF) : SF := fun r M => exB (f r M) r fun p M1 => forL p.2 t g p.1 r M1
/-- items of a list or tuple, for a loop -/
def seqI (f : EF) : IF := fun r M => bnd (f r M) fun d M1 => match d with
  | .tup ds => some (.ok (ds, []) M1)
  | .fl ds => some (.ok (ds, []) M1)
  | .ref i => (match M1[i]? with
    | some (.lst ds) => some (.ok (ds, [(i, ds)]) M1)
    | _ => none)
  | _ => none
def intsD (lo : Int) (n : Nat) : List D := (List.range n).map fun (i : Nat) => D.int (lo + (i : Int))
def Sm (i : Int) : Prop := -(2 ^ 62) ≤ i ∧ i < 2 ^ 62
noncomputable instance (i : Int) : Decidable (Sm i) := Classical.propDecidable _
noncomputable def rng1 (f : EF) : IF := fun r M => bnd (f r M) fun d M1 => match d with
  | .int n => if Sm n then some (.ok (intsD 0 n.toNat, []) M1) else none
  | _ => none
noncomputable def rng2 (f g : EF) : IF := fun r M => bnd (f r M) fun d M1 => bnd (g r M1) fun e M2 => match d, e with
  | .int a, .int n => if Sm a ∧ Sm n then some (.ok (intsD a (n - a).toNat, []) M2) else none
  | _, _ => none
/-- while: n turns at most -/
def wIter (t : TF) (g : SF) : Nat → SF
  | 0, _, _ => none
  | n + 1, r, M => exB (t r M) r fun b M1 => if b = true then (match g r M1 with
    | some (.nx r2, M2) => wIter t g n r2 M2
    | some (.ct r2, M2) => wIter t g n r2 M2
    | some (.bk r2, M2) => some (.nx r2, M2)
    | o => o) else some (.nx r, M1)
open Classical in
noncomputable def sWhile (t : TF) (g : SF) : SF := fun r M => if h : ∃ n, (wIter t g n r M).isSome then wIter t g h.choose r M else none
theorem wIter_mono {t : TF} {g : SF} : ∀ {n k : Nat} {r : Ev} {M : Hd} {o : Fl × Hd}, n ≤ k → wIter t g n r M = some o → wIter t g k r M = some o
  | 0, _, _, _, _, _, h => nomatch h
  | n + 1, 0, _, _, _, hk, _ => absurd hk (Nat.not_succ_le_zero n)
  | n + 1, k + 1, r, M, o, hk, h => by
    unfold wIter at h ⊢
    cases e : t r M with
    | none => rw [e] at h; exact nomatch h
    | some x =>
      cases x with
      | er c M1 => rw [e] at h; exact h
      | ok b M1 =>
        rw [e] at h
        cases b with
        | false => exact h
        | true =>
          simp only [exB_ok, if_true] at h ⊢
          cases e2 : g r M1 with
          | none => rw [e2] at h; exact nomatch h
          | some p =>
            obtain ⟨f, M2⟩ := p
            rw [e2] at h
            cases f with
            | nx r2 => exact wIter_mono (Nat.le_of_succ_le_succ hk) h
            | ct r2 => exact wIter_mono (Nat.le_of_succ_le_succ hk) h
            | bk r2 => exact h
            | rt d => exact h
            | xx c r2 => exact h
theorem sWhile_of {t : TF} {g : SF} {n : Nat} {r : Ev} {M : Hd} {o : Fl × Hd} (h : wIter t g n r M = some o) : sWhile t g r M = some o := by
  have he : ∃ n, (wIter t g n r M).isSome := ⟨n, by rw [h]; rfl⟩
  unfold sWhile
  rw [dif_pos he]
  obtain ⟨o', h'⟩ := Option.isSome_iff_exists.mp he.choose_spec
  rw [h']
  rcases Nat.le_total n he.choose with hl | hl
  · rw [wIter_mono hl h] at h'; exact h'.symm
  · rw [wIter_mono hl h'] at h; exact h
theorem of_sWhile {t : TF} {g : SF} {r : Ev} {M : Hd} {o : Fl × Hd} (h : sWhile t g r M = some o) : ∃ n, wIter t g n r M = some o := by
  unfold sWhile at h
  split at h
  · rename_i he
    exact ⟨_, h⟩
  · cases h
/-- a while by a word and a measure -/
theorem while_rule {t : TF} {g : SF} {Q : Fl × Hd → Prop} (P : Nat → Ev → Hd → Prop)
    (hs : ∀ n r M, P n r M → (∃ M1, t r M = some (.ok false M1) ∧ Q (.nx r, M1)) ∨ (∃ M1 o, t r M = some (.ok true M1) ∧ g r M1 = some o ∧
      match o with
      | (.nx r2, M2) => ∃ k, k < n ∧ P k r2 M2
      | (.ct r2, M2) => ∃ k, k < n ∧ P k r2 M2
      | (.bk r2, M2) => Q (.nx r2, M2)
      | o => Q o)) : ∀ n r M, P n r M → ∃ o, sWhile t g r M = some o ∧ Q o := by
  have key : ∀ n, ∀ k, k ≤ n → ∀ r M, P k r M → ∃ o, wIter t g (n + 1) r M = some o ∧ Q o := by
    intro n
    induction n with
    | zero =>
      intro k hk r M hp
      obtain rfl : k = 0 := by omega
      rcases hs 0 r M hp with ⟨M1, e, q⟩ | ⟨M1, o, e, e2, q⟩
      · exact ⟨_, by unfold wIter; rw [e]; rfl, q⟩
      · unfold wIter
        rw [e]
        simp only [exB_ok, if_true]
        rw [e2]
        obtain ⟨f, M2⟩ := o
        cases f with
        | nx r2 => obtain ⟨k, hk, _⟩ := q; omega
        | ct r2 => obtain ⟨k, hk, _⟩ := q; omega
        | bk r2 => exact ⟨_, rfl, q⟩
        | rt d => exact ⟨_, rfl, q⟩
        | xx c r2 => exact ⟨_, rfl, q⟩
    | succ n ih =>
      intro k hk r M hp
      rcases hs k r M hp with ⟨M1, e, q⟩ | ⟨M1, o, e, e2, q⟩
      · exact ⟨_, by unfold wIter; rw [e]; rfl, q⟩
      · unfold wIter
        rw [e]
        simp only [exB_ok, if_true]
        rw [e2]
        obtain ⟨f, M2⟩ := o
        cases f with
        | nx r2 => obtain ⟨j, hj, p⟩ := q; exact ih j (by omega) r2 M2 p
        | ct r2 => obtain ⟨j, hj, p⟩ := q; exact ih j (by omega) r2 M2 p
        | bk r2 => exact ⟨_, rfl, q⟩
        | rt d => exact ⟨_, rfl, q⟩
        | xx c r2 => exact ⟨_, rfl, q⟩
  intro n r M hp
  obtain ⟨o, h, q⟩ := key n n (Nat.le_refl _) r M hp
  exact ⟨o, sWhile_of h, q⟩

/-! ### comprehensions -/
/-- the slots of the block's own names forgotten -/
def wip (r : Ev) : List Nat → Ev
  | [] => r
  | v :: vs => (wip r vs).set v none
open Classical in
noncomputable def lcL (gs : Gd) (n : Nat) (t : Tg) (c : TF) (f : EF) (r : Ev) : List D → Hd → Option Hd
  | [], M => if Still gs M then some M else none
  | d :: ds, M => if Still gs M then (match t.put d r with
    | none => none
    | some r1 => match c r1 M with
      | some (.ok true M1) => (match f r1 M1 with
        | some (.ok x M2) => (match M2[n]? with
          | some (.lst acc) => if acc.length < 16777216 then lcL gs n t c f r ds (M2.set n (.lst (acc ++ [x]))) else none
          | _ => none)
        | _ => none)
      | some (.ok false M1) => lcL gs n t c f r ds M1
      | _ => none) else none
noncomputable def eLc (it : IF) (t : Tg) (c : TF) (f : EF) (own : List Nat) : EF := fun r M => bnd (it r M) fun p M1 => match lcL p.2 M1.length t c f (wip r own) p.1 (M1 ++ [.lst []]) with
  | some M2 => some (.ok (.ref M1.length) M2)
  | none => none
def tYes : TF := fun _ M => some (.ok true M)

/-! ### a def -/
def startD (n : Nat) (ds : List D) : Ev := ds.map some ++ List.replicate (n - ds.length) none
/-- n names, k parameters -/
def mir (n k : Nat) (g : SF) : List D → Hd → Option (Rs D) := fun ds M => if ds.length = k then (match g (startD n ds) M with
  | some (.rt d, M1) => some (.ok d M1)
  | some (.nx _, M1) => some (.ok .non M1)
  | some (.xx c _, M1) => some (.er c M1)
  | _ => none) else none
end DI

end

section
set_option Elab.async false
set_option linter.all false
set_option maxRecDepth 100000
set_option maxHeartbeats 4000000
/-! DI2: expressions and statements do what DI1 says. -/
namespace DI
open PySem PySem.Spec PyProof.Rows L2

/-! ### data and values -/
mutual
def Rep (K : PySem.W.Frag) (p : List Addr) (H : Hp) : D → V → Prop
  | .non, v => v = .non
  | .bl b, v => v = .bl b
  | .int i, v => v = .int i
  | .str x, v => v = .str x
  | .tup ds, v => ∃ a vs, v = .ref a ∧ SqT K H a vs ∧ Reps K p H ds vs
  | .fl ds, v => ∃ a vs, v = .ref a ∧ ((∃ o, H a = some (.frz o (.lst vs))) ∨ ∀ H', SqL K H' a vs) ∧ Reps K p H ds vs
  | .ref i, v => ∃ a, p[i]? = some a ∧ v = .ref a
def Reps (K : PySem.W.Frag) (p : List Addr) (H : Hp) : List D → List V → Prop
  | [], vs => vs = []
  | d :: ds, vs => ∃ v ws, vs = v :: ws ∧ Rep K p H d v ∧ Reps K p H ds ws
end
/-- tuples and frozen things stay -/
structure Le (H H' : Hp) : Prop where
  t : ∀ a vs, H a = some (.tup vs) → H' a = some (.tup vs)
  f : ∀ a o u, H a = some (.frz o u) → H' a = some (.frz o u)
theorem Le.refl (H : Hp) : Le H H := ⟨fun _ _ h => h, fun _ _ _ h => h⟩
theorem Le.trans {A B C : Hp} (h : Le A B) (k : Le B C) : Le A C := ⟨fun a v q => k.t a v (h.t a v q), fun a o u q => k.f a o u (h.f a o u q)⟩
theorem Le.new {H : Hp} {a : Addr} {o : HO} (h : H a = none) : Le H (upd H a o) :=
  ⟨fun b v q => by rw [upd_ne (ne_of_none q h)]; exact q, fun b v u q => by rw [upd_ne (ne_of_none q h)]; exact q⟩
theorem Le.sqT {K : PySem.W.Frag} {H H' : Hp} (h : Le H H') {a : Addr} {vs : List V} (q : SqT K H a vs) : SqT K H' a vs := by
  rcases q with (q | ⟨o, q⟩) | q
  · exact .inl (.inl (h.t _ _ q))
  · exact .inl (.inr ⟨o, h.f _ _ _ q⟩)
  · exact .inr q
mutual
theorem Rep.up {K : PySem.W.Frag} {p p' : List Addr} {H H' : Hp} (hp : p <+: p') (hl : Le H H') : ∀ (d : D) {v : V}, Rep K p H d v → Rep K p' H' d v
  | .non, _, h => by unfold Rep at h ⊢; exact h
  | .bl _, _, h => by unfold Rep at h ⊢; exact h
  | .int _, _, h => by unfold Rep at h ⊢; exact h
  | .str _, _, h => by unfold Rep at h ⊢; exact h
  | .tup ds, v, h => by
    unfold Rep at h ⊢
    obtain ⟨a, vs, e, q, r⟩ := h
    exact ⟨a, vs, e, hl.sqT q, Reps.up hp hl ds r⟩
  | .fl ds, v, h => by
    unfold Rep at h ⊢
    obtain ⟨a, vs, e, q, r⟩ := h
    refine ⟨a, vs, e, ?_, Reps.up hp hl ds r⟩
    rcases q with ⟨o, q⟩ | q
    · exact .inl ⟨o, hl.f _ _ _ q⟩
    · exact .inr q
  | .ref i, v, h => by
    unfold Rep at h ⊢
    obtain ⟨a, e, q⟩ := h
    obtain ⟨t, rfl⟩ := hp
    refine ⟨a, ?_, q⟩
    rw [List.getElem?_append_left (List.getElem?_eq_some_iff.mp e).1]
    exact e
theorem Reps.up {K : PySem.W.Frag} {p p' : List Addr} {H H' : Hp} (hp : p <+: p') (hl : Le H H') : ∀ (ds : List D) {vs : List V}, Reps K p H ds vs → Reps K p' H' ds vs
  | [], _, h => by unfold Reps at h ⊢; exact h
  | d :: ds, _, h => by
    unfold Reps at h ⊢
    obtain ⟨v, ws, e, r, q⟩ := h
    exact ⟨v, ws, e, Rep.up hp hl d r, Reps.up hp hl ds q⟩
end
theorem reps_nil {K : PySem.W.Frag} {p : List Addr} {H : Hp} : Reps K p H [] [] := by unfold Reps; rfl
theorem reps_cons {K : PySem.W.Frag} {p : List Addr} {H : Hp} {d : D} {ds : List D} {v : V} {vs : List V} (h : Rep K p H d v) (k : Reps K p H ds vs) : Reps K p H (d :: ds) (v :: vs) := by
  unfold Reps; exact ⟨v, vs, rfl, h, k⟩
theorem reps_len {K : PySem.W.Frag} {p : List Addr} {H : Hp} : ∀ {ds : List D} {vs : List V}, Reps K p H ds vs → ds.length = vs.length
  | [], _, h => by unfold Reps at h; subst h; rfl
  | d :: ds, _, h => by
    unfold Reps at h
    obtain ⟨v, ws, e, _, q⟩ := h
    rw [e, List.length_cons, List.length_cons, reps_len q]
theorem reps_get {K : PySem.W.Frag} {p : List Addr} {H : Hp} : ∀ {ds : List D} {vs : List V} {i : Nat} {d : D}, Reps K p H ds vs → ds[i]? = some d → ∃ v, vs[i]? = some v ∧ Rep K p H d v
  | [], _, _, _, _, e => by simp at e
  | x :: ds, _, 0, d, h, e => by
    unfold Reps at h
    obtain ⟨v, ws, rfl, r, _⟩ := h
    simp at e
    subst e
    exact ⟨v, rfl, r⟩
  | x :: ds, _, i + 1, d, h, e => by
    unfold Reps at h
    obtain ⟨v, ws, rfl, _, q⟩ := h
    simpa using reps_get (i := i) (d := d) q (by simpa using e)
theorem reps_app {K : PySem.W.Frag} {p : List Addr} {H : Hp} : ∀ {ds es : List D} {vs ws : List V}, Reps K p H ds vs → Reps K p H es ws → Reps K p H (ds ++ es) (vs ++ ws)
  | [], _, _, _, h, k => by unfold Reps at h; rw [h]; exact k
  | d :: ds, _, _, _, h, k => by
    unfold Reps at h
    obtain ⟨v, us, rfl, r, q⟩ := h
    exact reps_cons r (reps_app q k)
theorem reps_set {K : PySem.W.Frag} {p : List Addr} {H : Hp} {d : D} {v : V} (r : Rep K p H d v) : ∀ {ds : List D} {vs : List V} (i : Nat), Reps K p H ds vs → Reps K p H (ds.set i d) (vs.set i v)
  | [], _, _, h => by unfold Reps at h; rw [h]; exact reps_nil
  | x :: ds, _, 0, h => by
    unfold Reps at h
    obtain ⟨u, us, rfl, _, q⟩ := h
    exact reps_cons r q
  | x :: ds, _, i + 1, h => by
    unfold Reps at h
    obtain ⟨u, us, rfl, s, q⟩ := h
    exact reps_cons s (reps_set r i q)
theorem reps_drop {K : PySem.W.Frag} {p : List Addr} {H : Hp} : ∀ {ds : List D} {vs : List V} (n : Nat), Reps K p H ds vs → Reps K p H (ds.drop n) (vs.drop n)
  | _, _, 0, h => h
  | [], _, n + 1, h => by unfold Reps at h; rw [h]; exact reps_nil
  | d :: ds, _, n + 1, h => by
    unfold Reps at h
    obtain ⟨u, us, rfl, _, q⟩ := h
    exact reps_drop n q
theorem reps_take {K : PySem.W.Frag} {p : List Addr} {H : Hp} : ∀ {ds : List D} {vs : List V} (n : Nat), Reps K p H ds vs → Reps K p H (ds.take n) (vs.take n)
  | _, _, 0, h => reps_nil
  | [], _, n + 1, h => by unfold Reps at h; rw [h]; exact reps_nil
  | d :: ds, _, n + 1, h => by
    unfold Reps at h
    obtain ⟨u, us, rfl, r, q⟩ := h
    exact reps_cons r (reps_take n q)

/-! ### the heap -/
def OR (K : PySem.W.Frag) (mg : Str → Option Value) (p : List Addr) (H : Hp) (a : Addr) : O → Prop
  | .lst ds => ∃ vs, H a = some (.lst vs) ∧ Reps K p H ds vs
  | .dic kvs => ∃ ws : List (Key × V), H a = some (.dK ws) ∧ Paired (fun (x : Str × D) (y : Key × V) => y.1 = Sum.inr x.1 ∧ Rep K p H x.2 y.2) kvs ws
  | .dct kvs => ∃ ws : List (List Key × V), H a = some (.dT ws) ∧ Paired (fun (x : List D × D) (y : List Key × V) => Reps K p H x.1 (y.1.map kV) ∧ Rep K p H x.2 y.2) kvs ws
  | .ins c fs => ∃ C dx ws, mg c = some (.ref C) ∧ H a = some (.ins C dx ws) ∧ Paired (fun (x : Str × D) (y : Str × V) => y.1 = x.1 ∧ Rep K p H x.2 y.2) fs ws
structure Rl (K : PySem.W.Frag) (mg : Str → Option Value) (p : List Addr) (M : Hd) (H : Hp) : Prop where
  len : p.length = M.length
  nd : p.Nodup
  ob : ∀ (i : Nat) (o : O), M[i]? = some o → ∃ a, p[i]? = some a ∧ OR K mg p H a o
theorem paired_mono {α β : Type} {F G : α → β → Prop} (h : ∀ x y, F x y → G x y) : ∀ {l : List α} {m : List β}, Paired F l m → Paired G l m
  | _, _, .nil => .nil
  | _, _, .cons r t => .cons (h _ _ r) (paired_mono h t)
theorem OR.up {K : PySem.W.Frag} {mg : Str → Option Value} {p p' : List Addr} {H H' : Hp} {a : Addr} {o : O} (hp : p <+: p') (hl : Le H H') (he : H' a = H a) (h : OR K mg p H a o) : OR K mg p' H' a o := by
  cases o with
  | lst ds => obtain ⟨vs, e, r⟩ := h; exact ⟨vs, he.trans e, Reps.up hp hl ds r⟩
  | dic kvs => obtain ⟨ws, e, r⟩ := h; exact ⟨ws, he.trans e, paired_mono (fun x y q => ⟨q.1, Rep.up hp hl _ q.2⟩) r⟩
  | dct kvs => obtain ⟨ws, e, r⟩ := h; exact ⟨ws, he.trans e, paired_mono (fun x y q => ⟨Reps.up hp hl _ q.1, Rep.up hp hl _ q.2⟩) r⟩
  | ins c fs => obtain ⟨C, dx, ws, m, e, r⟩ := h; exact ⟨C, dx, ws, m, he.trans e, paired_mono (fun x y q => ⟨q.1, Rep.up hp hl _ q.2⟩) r⟩
theorem OR.some {K : PySem.W.Frag} {mg : Str → Option Value} {p : List Addr} {H : Hp} {a : Addr} {o : O} (h : OR K mg p H a o) : ∃ u, H a = some u ∧ (∀ vs, u ≠ .tup vs) ∧ (∀ o' w, u ≠ .frz o' w) := by
  cases o with
  | lst ds => obtain ⟨vs, e, r⟩ := h; exact ⟨_, e, (fun _ z => nomatch z), fun _ _ z => nomatch z⟩
  | dic kvs => obtain ⟨ws, e, r⟩ := h; exact ⟨_, e, (fun _ z => nomatch z), fun _ _ z => nomatch z⟩
  | dct kvs => obtain ⟨ws, e, r⟩ := h; exact ⟨_, e, (fun _ z => nomatch z), fun _ _ z => nomatch z⟩
  | ins c fs => obtain ⟨C, dx, ws, m, e, r⟩ := h; exact ⟨_, e, (fun _ z => nomatch z), fun _ _ z => nomatch z⟩
section
variable {K : PySem.W.Frag} {mg : Str → Option Value} {p : List Addr} {M : Hd} {H : Hp}
/-- an address of the data heap is tracked -/
theorem Rl.there (R : Rl K mg p M H) {i : Nat} {a : Addr} (h : p[i]? = some a) : ∃ o, M[i]? = some o ∧ OR K mg p H a o := by
  have hi : i < M.length := by rw [← R.len]; exact (List.getElem?_eq_some_iff.mp h).1
  obtain ⟨b, hb, q⟩ := R.ob i M[i] (List.getElem?_eq_getElem hi)
  rw [h] at hb
  cases hb
  exact ⟨_, List.getElem?_eq_getElem hi, q⟩
theorem Rl.ne (R : Rl K mg p M H) {i j : Nat} {a b : Addr} (ha : p[i]? = some a) (hb : p[j]? = some b) (h : i ≠ j) : a ≠ b := by
  intro e
  subst e
  obtain ⟨hi, ei⟩ := List.getElem?_eq_some_iff.mp ha
  obtain ⟨hj, ej⟩ := List.getElem?_eq_some_iff.mp hb
  exact h ((List.getElem_inj R.nd).mp (ei.trans ej.symm))
/-- something that the data heap does not know is laid -/
theorem Rl.other (R : Rl K mg p M H) {a : Addr} {u : HO} (h : H a = none) : Rl K mg p M (upd H a u) := by
  refine ⟨R.len, R.nd, fun i o e => ?_⟩
  obtain ⟨b, hb, q⟩ := R.ob i o e
  obtain ⟨w, hw, _⟩ := q.some
  exact ⟨b, hb, q.up (List.prefix_refl p) (Le.new h) (upd_ne (ne_of_none hw h))⟩
/-- a new thing -/
theorem Rl.new (R : Rl K mg p M H) {a : Addr} {u : HO} {o : O} (h : H a = none) (ho : OR K mg (p ++ [a]) (upd H a u) a o) : Rl K mg (p ++ [a]) (M ++ [o]) (upd H a u) := by
  have hna : a ∉ p := fun hm => by
    obtain ⟨i, hi, e⟩ := List.mem_iff_getElem.mp hm
    obtain ⟨o', _, q⟩ := R.there (i := i) (a := a) (by rw [List.getElem?_eq_getElem hi, e])
    obtain ⟨w, hw, _⟩ := q.some
    rw [h] at hw
    cases hw
  refine ⟨by rw [List.length_append, List.length_append, R.len] <;> rfl, ?_, fun i o' e => ?_⟩
  · rw [List.nodup_append]
    refine ⟨R.nd, by simp, fun x hx y hy e => ?_⟩
    have : y = a := by simpa using hy
    subst this
    subst e
    exact hna hx
  · by_cases hi : i < M.length
    · rw [List.getElem?_append_left hi] at e
      obtain ⟨b, hb, q⟩ := R.ob i o' e
      obtain ⟨w, hw, _⟩ := q.some
      refine ⟨b, ?_, q.up (List.prefix_append p [a]) (Le.new h) (upd_ne (ne_of_none hw h))⟩
      rw [List.getElem?_append_left (by rw [R.len]; exact hi)]
      exact hb
    · rw [List.getElem?_append_right (by omega)] at e
      have hi0 : i - M.length = 0 := by
        have := (List.getElem?_eq_some_iff.mp e).1
        simp at this
        omega
      rw [hi0] at e
      have e' : o = o' := by simpa using e
      subst e'
      refine ⟨a, ?_, ho⟩
      rw [List.getElem?_append_right (by rw [R.len]; omega), R.len, hi0]
      rfl
/-- a thing is changed -/
theorem Rl.put (R : Rl K mg p M H) {i : Nat} {a : Addr} {u : HO} {o : O} (ha : p[i]? = some a) (ho : Le H (upd H a u) → OR K mg p (upd H a u) a o) : Rl K mg p (M.set i o) (upd H a u) ∧ Le H (upd H a u) := by
  obtain ⟨o0, e0, q0⟩ := R.there ha
  obtain ⟨w, hw, n1, n2⟩ := q0.some
  have hl : Le H (upd H a u) := by
    refine ⟨fun b vs q => ?_, fun b o' w' q => ?_⟩
    · have : b ≠ a := fun e => by subst e; rw [hw] at q; exact n1 vs (Option.some.inj q)
      rw [upd_ne this]; exact q
    · have : b ≠ a := fun e => by subst e; rw [hw] at q; exact n2 o' w' (Option.some.inj q)
      rw [upd_ne this]; exact q
  refine ⟨⟨by rw [List.length_set]; exact R.len, R.nd, fun j o' e => ?_⟩, hl⟩
  by_cases hj : j = i
  · subst hj
    rw [List.getElem?_set_self (List.getElem?_eq_some_iff.mp e0).1] at e
    cases e
    exact ⟨a, ha, ho hl⟩
  · rw [List.getElem?_set_ne (Ne.symm hj)] at e
    obtain ⟨b, hb, q⟩ := R.ob j o' e
    exact ⟨b, hb, q.up (List.prefix_refl p) hl (upd_ne (R.ne hb ha hj))⟩
end
/-- slots; z: the exception that is held, and its name's slot -/
abbrev Zx := Option (Addr × Nat)
structure Sl (K : PySem.W.Frag) (z : Zx) (p : List Addr) (H : Hp) (r : Ev) (σ : L2.St) : Prop where
  len : r.length = σ.length
  at_ : ∀ (i : Nat) (d : D), r[i]? = some (some d) → ∃ v, σ[i]? = some (some v) ∧ Rep K p H d v
  ex : ∀ a i, z = some (a, i) → r[i]? = some none → σ[i]? = some (some (.ref a))
section
variable {K : PySem.W.Frag} {z : Zx} {p p' : List Addr} {H H' : Hp} {r : Ev} {σ : L2.St} {d : D} {v : V}
theorem Sl.up (hp : p <+: p') (hl : Le H H') (s : Sl K z p H r σ) : Sl K z p' H' r σ :=
  ⟨s.len, fun i d e => by
    obtain ⟨v, e', q⟩ := s.at_ i d e
    exact ⟨v, e', Rep.up hp hl d q⟩, s.ex⟩
theorem Sl.set (s : Sl K z p H r σ) (i : Nat) (q : Rep K p H d v) : Sl K z p H (r.set i (some d)) (σ.set i (some v)) := by
  refine ⟨by rw [List.length_set, List.length_set]; exact s.len, fun j e h => ?_, fun a j hz h => ?_⟩
  · by_cases hj : i = j
    · subst hj
      have hi : i < r.length := by
        have := (List.getElem?_eq_some_iff.mp h).1
        rw [List.length_set] at this
        exact this
      rw [List.getElem?_set_self hi] at h
      cases h
      exact ⟨v, by rw [List.getElem?_set_self (by rw [← s.len]; exact hi)], q⟩
    · rw [List.getElem?_set_ne hj] at h
      obtain ⟨u, e', q'⟩ := s.at_ j e h
      exact ⟨u, by rw [List.getElem?_set_ne hj]; exact e', q'⟩
  · by_cases hj : i = j
    · subst hj
      have hi : i < r.length := by
        have := (List.getElem?_eq_some_iff.mp h).1
        rw [List.length_set] at this
        exact this
      rw [List.getElem?_set_self hi] at h
      cases h
    · rw [List.getElem?_set_ne hj] at h ⊢
      exact s.ex a j hz h
theorem Sl.del (s : Sl K none p H r σ) (i : Nat) (x : Option V) : Sl K none p H (r.set i none) (σ.set i x) := by
  refine ⟨by rw [List.length_set, List.length_set]; exact s.len, fun j e h => ?_, fun a j hz h => nomatch hz⟩
  by_cases hj : i = j
  · subst hj
    have hi : i < r.length := by
      have := (List.getElem?_eq_some_iff.mp h).1
      rw [List.length_set] at this
      exact this
    rw [List.getElem?_set_self hi] at h
    cases h
  · rw [List.getElem?_set_ne hj] at h
    obtain ⟨u, e', q'⟩ := s.at_ j e h
    exact ⟨u, by rw [List.getElem?_set_ne hj]; exact e', q'⟩
end

/-! ### the judgements -/
/-- what stands still of the context -/
structure Kx where
  K : PySem.W.Frag
  mg : Str → Option Value
  z : Zx
/-- what is wanted of an outcome -/
def PoE (k : Kx) (W : WX) {α β : Type} (Re : List Addr → Hp → α → β → Prop) (p : List Addr) (H : Hp) (σ : L2.St) (o : Rs α) (Q : β → Hp → Prop) : Prop := match o with
  | .ok d M' => ∀ p' H' v, p <+: p' → Le H H' → Rl k.K k.mg p' M' H' → Re p' H' d v → Q v H'
  | .er c M' => ∀ p' H' C, p <+: p' → Le H H' → Rl k.K k.mg p' M' H' → k.mg c = some (.ref C) → W (.ref C) none σ H'
def gE (k : Kx) (W : WX) {α β : Type} (Re : List Addr → Hp → α → β → Prop) (f : Ev → Hd → Option (Rs α)) : L2.St → Hp → (β → Hp → Prop) → Prop := fun σ H Q =>
  ∃ p M r o, Rl k.K k.mg p M H ∧ Sl k.K k.z p H r σ ∧ f r M = some o ∧ PoE k W Re p H σ o Q
abbrev rD (k : Kx) : List Addr → Hp → D → V → Prop := Rep k.K
abbrev rB : List Addr → Hp → Bool → Bool → Prop := fun _ _ b c => c = b
abbrev rA (k : Kx) : List Addr → Hp → List D → List V → Prop := Reps k.K
abbrev Cx.k (X : Cx) (z : Zx) : Kx := ⟨X.K, X.mg, z⟩
def DE (X : Cx) (z : Zx) (W : WX) (e : Expr) (f : EF) : Prop := PE X e (gE (Cx.k X z) W (rD (Cx.k X z)) f)
def DT (X : Cx) (z : Zx) (W : WX) (e : Expr) (f : TF) : Prop := PT X e (gE (Cx.k X z) W rB f)
def DW (X : Cx) (z : Zx) (W : WX) (e : Expr) (f : TF) : Prop := PW X e (gE (Cx.k X z) W rB f)
def DA (X : Cx) (z : Zx) (W : WX) (es : List Expr) (f : AF) : Prop := PA X es (gE (Cx.k X z) W (rA (Cx.k X z)) f)
theorem _root_.L2.PE.imp {X : Cx} {e : Expr} {t u : TE} (h : PE X e t) (q : ∀ σ H Q, u σ H Q → t σ H Q) : PE X e u := ⟨fun pins s σ H Q I k => h.run pins s σ H Q I (q σ H Q k)⟩
theorem _root_.L2.PT.imp {X : Cx} {e : Expr} {t u : TT} (h : PT X e t) (q : ∀ σ H Q, u σ H Q → t σ H Q) : PT X e u := ⟨fun pins s σ H Q I k => h.run pins s σ H Q I (q σ H Q k)⟩
theorem _root_.L2.PW.imp {X : Cx} {e : Expr} {t u : TT} (h : PW X e t) (q : ∀ σ H Q, u σ H Q → t σ H Q) : PW X e u := ⟨fun wh pins s σ H Q I k => h.run wh pins s σ H Q I (q σ H Q k)⟩
theorem _root_.L2.PA.imp {X : Cx} {e : List Expr} {t u : TA} (h : PA X e t) (q : ∀ σ H Q, u σ H Q → t σ H Q) : PA X e u := ⟨fun pos pins s σ H Q I k => h.run pos pins s σ H Q I (q σ H Q k)⟩
theorem _root_.L2.PS.imp {X : Cx} {e : Stmt} {t u : TS} (h : PS X e t) (q : ∀ D σ H, u D σ H → t D σ H) : PS X e u := ⟨fun pins s σ H Q I k => h.run pins s σ H Q I (q _ σ H k)⟩
theorem _root_.L2.PSs.imp {X : Cx} {e : List Stmt} {t u : TS} (h : PSs X e t) (q : ∀ D σ H, u D σ H → t D σ H) : PSs X e u := ⟨fun pins s σ H Q I k => h.run pins s σ H Q I (q _ σ H k)⟩

section
variable {k : Kx} {W : WX} {α β γ δ : Type} {Re : List Addr → Hp → α → β → Prop} {Rf : List Addr → Hp → γ → δ → Prop}
/-- first f, then what g says -/
theorem gE_bnd {f : Ev → Hd → Option (Rs α)} {g : α → Hd → Option (Rs γ)} {r : Ev} {M : Hd} {p : List Addr} {σ : L2.St} {H : Hp} {o : Rs γ} {Q : δ → Hp → Prop} {S : β → Hp → Prop} (R : Rl k.K k.mg p M H) (L : Sl k.K k.z p H r σ)
    (e : bnd (f r M) g = some o) (po : PoE k W Rf p H σ o Q)
    (h : ∀ d M1 p1 H1 v, Rl k.K k.mg p1 M1 H1 → Sl k.K k.z p1 H1 r σ → Le H H1 → p <+: p1 → Re p1 H1 d v → g d M1 = some o → PoE k W Rf p1 H1 σ o Q → S v H1) : gE k W Re f σ H S := by
  cases ef : f r M with
  | none => rw [ef] at e; exact nomatch e
  | some x =>
    refine ⟨p, M, r, x, R, L, ef, ?_⟩
    rw [ef] at e
    cases x with
    | er c M1 =>
      cases e
      exact po
    | ok d M1 =>
      intro p1 H1 v hp hl R1 q
      refine h d M1 p1 H1 v R1 (L.up hp hl) hl hp q e ?_
      cases o with
      | ok d2 M2 => exact fun p2 H2 v2 hp2 hl2 R2 q2 => po p2 H2 v2 (hp.trans hp2) (hl.trans hl2) R2 q2
      | er c M2 => exact fun p2 H2 C hp2 hl2 R2 q2 => po p2 H2 C (hp.trans hp2) (hl.trans hl2) R2 q2
/-- the outcome as it stands -/
theorem PoE.ok {p : List Addr} {H : Hp} {σ : L2.St} {d : γ} {M : Hd} {Q : δ → Hp → Prop} (po : PoE k W Rf p H σ (.ok d M) Q) {v : δ} (R : Rl k.K k.mg p M H) (q : Rf p H d v) : Q v H := po p H v (List.prefix_refl p) (Le.refl H) R q
end

section
variable {X : Cx} {z : Zx} {W : WX} {a b c : Expr} {fa fb fc : EF} {pos : Pos}
/-! ### names, constants -/
theorem de_var (i : Nat) {x : Str} (hN : X.N[i]? = some x := by rfl) (hv : Vis X.env.scope x := by first | exact Or.inl rfl | exact Or.inr (Or.inl rfl) | exact Or.inr (Or.inr rfl)) (hd : (x == ("__debug__" : Str)) = false := by decide) (hcd : (x == ("__classdict__" : Str)) = false := by decide) :
    DE X z W (.Name x pos) (eVar i) := by
  refine (pe_var (i := i) hN hv hd hcd).imp ?_
  rintro σ H Q ⟨p, M, r, o, R, L, e, po⟩
  unfold eVar at e
  split at e
  · rename_i d hd'
    cases e
    obtain ⟨v, hv', q⟩ := L.at_ i d hd'
    exact ⟨v, hv', po.ok R q⟩
  · cases e
theorem gE_c {k : Kx} {d : D} {v : V} (h : ∀ p H, Rep k.K p H d v) {σ : L2.St} {H : Hp} {Q : VK} (g : gE k W (rD k) (eC d) σ H Q) : tC v σ H Q := by
  obtain ⟨p, M, r, o, R, L, e, po⟩ := g
  cases e
  exact po.ok R (h p H)
theorem de_int {i : Int} {j : Nat} : DE X z W (.Constant (.int i) j pos) (eC (.int i)) := pe_int.imp fun _ _ _ => gE_c fun _ _ => by unfold Rep; rfl
theorem de_bl {i : Bool} {j : Nat} : DE X z W (.Constant (.bool i) j pos) (eC (.bl i)) := pe_bl.imp fun _ _ _ => gE_c fun _ _ => by unfold Rep; rfl
theorem de_non {j : Nat} : DE X z W (.Constant .none j pos) (eC .non) := pe_non.imp fun _ _ _ => gE_c fun _ _ => by unfold Rep; rfl
theorem de_str {x : Str} {j : Nat} : DE X z W (.Constant (.str x) j pos) (eC (.str x)) := pe_str.imp fun _ _ _ => gE_c fun _ _ => by unfold Rep; rfl
/-- a constant of the module -/
theorem de_glob {x : Str} {v : V} {u : Value} {d : D} (hg : Gl X x) (hm : X.mg x = some u) (r : RelV v u) (h : ∀ p H, Rep X.K p H d v) (hd : (x == ("__debug__" : Str)) = false := by decide) : DE X z W (.Name x pos) (eC d) :=
  (pe_glob hg hm r hd).imp fun _ _ _ => gE_c h

/-- an int of the module -/
theorem de_gi {x : Str} {i : Int} (h : ∃ u, X.mg x = some u ∧ RelV (.int i) u) (hg : Gl X x := by rfl) (hd : (x == ("__debug__" : Str)) = false := by decide) : DE X z W (.Name x pos) (eC (.int i)) := by
  obtain ⟨u, h1, h2⟩ := h
  exact de_glob hg h1 h2 (fun _ _ => by unfold Rep; rfl) hd

/-! ### operators -/
/-- an operator by values does what g says of data -/
def OD (k : Kx) (r : R2) (g : G2) : Prop := ∀ {p M H x y v u o Q} (W : WX) (σ : L2.St), Rl k.K k.mg p M H → Rep k.K p H x v → Rep k.K p H y u → g x y M = some o → PoE k W (rD k) p H σ o Q → r v u H Q
def OU (k : Kx) (r : V → Hp → VK → Prop) (g : D → Hd → Option (Rs D)) : Prop := ∀ {p M H x v o Q} (W : WX) (σ : L2.St), Rl k.K k.mg p M H → Rep k.K p H x v → g x M = some o → PoE k W (rD k) p H σ o Q → r v H Q
theorem gE_op {k : Kx} {r : R2} {g : G2} (h : OD k r g) {σ : L2.St} {H : Hp} {Q : VK} (q : gE k W (rD k) (eOp g fa fb) σ H Q) : tOp r (gE k W (rD k) fa) (gE k W (rD k) fb) σ H Q := by
  obtain ⟨p, M, ρ, o, R, L, e, po⟩ := q
  refine gE_bnd R L e po fun d M1 p1 H1 v R1 L1 hl1 hp1 q1 e1 po1 => ?_
  refine gE_bnd R1 L1 e1 po1 fun d2 M2 p2 H2 u R2 L2 hl2 hp2 q2 e2 po2 => ?_
  exact h W σ R2 (Rep.up hp2 hl2 _ q1) q2 e2 po2
theorem de_op {op : Operator} {r : R2} {g : G2} (ho : OpR X (binaryOp op) r) (h : OD (Cx.k X z) r g) (ha : DE X z W a fa) (hb : DE X z W b fb) : DE X z W (.BinOp a op b pos) (eOp g fa fb) :=
  (pe_op ho ha hb).imp fun _ _ _ q => gE_op h q
theorem de_un {op : UnaryOp} {r : V → Hp → VK → Prop} {g : D → Hd → Option (Rs D)} (ho : UnR X (unaryOp op) r) (h : OU (Cx.k X z) r g) (ha : DE X z W a fa) : DE X z W (.UnaryOp op a pos) (eUn g fa) := by
  refine (pe_un ho ha).imp ?_
  rintro σ H Q ⟨p, M, ρ, o, R, L, e, po⟩
  exact gE_bnd R L e po fun d M1 p1 H1 v R1 L1 hl1 hp1 q1 e1 po1 => h W σ R1 q1 e1 po1
theorem de_cmp {op : CmpOp} {r : R2} {g : G2} (ho : OpR X (compareOp op) r) (h : OD (Cx.k X z) r g) (ha : DE X z W a fa) (hb : DE X z W b fb) (hm : behindInMarks op b = false := by first | exact nomark _ | rfl) : DE X z W (.Compare a [op] [b] pos) (eOp g fa fb) :=
  (pe_cmpR ho ha hb hm).imp fun _ _ _ q => gE_op h q
/-- a test whose answer is a bool -/
theorem gE_bOf {k : Kx} {f : EF} {σ : L2.St} {H : Hp} {Q : Bool → Hp → Prop} (q : gE k W rB (tVal f) σ H Q) : gE k W (rD k) f σ H fun x H' => ∃ c, x = .bl c ∧ Q c H' := by
  obtain ⟨p, M, ρ, o, R, L, e, po⟩ := q
  refine gE_bnd R L e po fun d M1 p1 H1 v R1 L1 hl1 hp1 q1 e1 po1 => ?_
  cases d with
  | bl b =>
    cases e1
    unfold Rep at q1
    exact ⟨b, q1, po1.ok R1 rfl⟩
  | _ => cases e1
theorem dt_cmp {op : CmpOp} {r : R2} {g : G2} (ho : OpR X (compareOp op) r) (h : OD (Cx.k X z) r g) (ha : DE X z W a fa) (hb : DE X z W b fb) (hm : behindInMarks op b = false := by first | exact nomark _ | rfl) : DT X z W (.Compare a [op] [b] pos) (tVal (eOp g fa fb)) := by
  refine (pt_cmpR ho ha hb hm).imp fun σ H Q q => ?_
  have q2 := gE_bOf q
  exact gE_op (Q := fun x H' => ∃ c, x = .bl c ∧ Q c H') h q2

/-! ### what stands behind data -/
theorem rep_tup {K : PySem.W.Frag} {p : List Addr} {H : Hp} {a : Addr} {ds : List D} {vs : List V} (h : SqT K H a vs) (q : Reps K p H ds vs) : Rep K p H (.tup ds) (.ref a) := by
  unfold Rep; exact ⟨a, vs, rfl, h, q⟩
theorem rep_ref {K : PySem.W.Frag} {p : List Addr} {H : Hp} {a : Addr} {i : Nat} (h : p[i]? = some a) : Rep K p H (.ref i) (.ref a) := by
  unfold Rep; exact ⟨a, h, rfl⟩
theorem rep_int {K : PySem.W.Frag} {p : List Addr} {H : Hp} {i : Int} : Rep K p H (.int i) (.int i) := by unfold Rep; rfl
theorem rep_bl {K : PySem.W.Frag} {p : List Addr} {H : Hp} {i : Bool} : Rep K p H (.bl i) (.bl i) := by unfold Rep; rfl
theorem rep_str {K : PySem.W.Frag} {p : List Addr} {H : Hp} {i : Str} : Rep K p H (.str i) (.str i) := by unfold Rep; rfl
theorem rep_non {K : PySem.W.Frag} {p : List Addr} {H : Hp} : Rep K p H .non .non := by unfold Rep; rfl
theorem rep_lst {K : PySem.W.Frag} {mg : Str → Option Value} {p : List Addr} {M : Hd} {H : Hp} {i : Nat} {v : V} {ds : List D} (R : Rl K mg p M H) (h : Rep K p H (.ref i) v) (e : M[i]? = some (.lst ds)) :
    ∃ a vs, v = .ref a ∧ p[i]? = some a ∧ H a = some (.lst vs) ∧ Reps K p H ds vs := by
  unfold Rep at h
  obtain ⟨a, ha, rfl⟩ := h
  obtain ⟨b, hb, vs, e1, e2⟩ := R.ob i _ e
  rw [ha] at hb
  cases hb
  exact ⟨a, vs, rfl, ha, e1, e2⟩
theorem rep_items {K : PySem.W.Frag} {mg : Str → Option Value} {p : List Addr} {M : Hd} {H : Hp} {x : D} {v : V} {ds : List D} (R : Rl K mg p M H) (h : Rep K p H x v) (e : itemsD x M = some ds) :
    ∃ a vs, v = .ref a ∧ (SqL K H a vs ∨ SqT K H a vs) ∧ Reps K p H ds vs := by
  cases x with
  | tup es =>
    cases e
    unfold Rep at h
    obtain ⟨a, vs, e1, e2, e3⟩ := h
    exact ⟨a, vs, e1, .inr e2, e3⟩
  | fl es =>
    cases e
    unfold Rep at h
    obtain ⟨a, vs, e1, e2, e3⟩ := h
    refine ⟨a, vs, e1, .inl ?_, e3⟩
    rcases e2 with ⟨o, e2⟩ | e2
    · exact .inl (.inr ⟨o, e2⟩)
    · exact e2 H
  | ref i =>
    unfold itemsD at e
    dsimp only at e
    split at e
    · rename_i es ho
      cases e
      obtain ⟨a, vs, e1, _, e2, e3⟩ := rep_lst R h ho
      exact ⟨a, vs, e1, .inl (SqL.of e2), e3⟩
    · cases e
  | _ => cases e
theorem reps_atI {K : PySem.W.Frag} {p : List Addr} {H : Hp} {ds : List D} {vs : List V} {i : Int} {d : D} (h : Reps K p H ds vs) (e : atI ds i = some d) : ∃ v, atI vs i = some v ∧ Rep K p H d v := by
  unfold atI at e ⊢
  rw [← reps_len h]
  cases q : ixN ds.length i with
  | none => rw [q] at e; cases e
  | some j =>
    rw [q] at e
    exact reps_get h e
theorem line_eq {n : Nat} (h : n ≤ 16777216) : n ≤ sizeLine := by rw [sizeLine_eq]; exact h
theorem line_lt {n : Nat} (h : n < 16777216) : n < sizeLine := by rw [sizeLine_eq]; exact h
section
variable {k : Kx} {p : List Addr} {M : Hd} {H : Hp} {σ : L2.St} {Q : VK} {ds : List D} {vs : List V}
theorem po_tup (R : Rl k.K k.mg p M H) (po : PoE k W (rD k) p H σ (.ok (.tup ds) M) Q) (h : Reps k.K p H ds vs) : ∀ a, H a = none → Q (.ref a) (upd H a (.tup vs)) := fun a ha =>
  po p _ _ (List.prefix_refl p) (Le.new ha) (R.other ha) (rep_tup (SqT.of upd_same) (Reps.up (List.prefix_refl p) (Le.new ha) _ h))
theorem po_lst (R : Rl k.K k.mg p M H) (po : PoE k W (rD k) p H σ (.ok (.ref M.length) (M ++ [.lst ds])) Q) (h : Reps k.K p H ds vs) : ∀ a, H a = none → Q (.ref a) (upd H a (.lst vs)) := fun a ha =>
  po (p ++ [a]) _ _ (List.prefix_append p [a]) (Le.new ha) (R.new ha ⟨vs, upd_same, Reps.up (List.prefix_append p [a]) (Le.new ha) _ h⟩) (rep_ref (by rw [List.getElem?_append_right (by rw [R.len]; omega), R.len]; simp))
end

/-! ### arithmetic -/
section
variable {k : Kx}
def rAddD (K : PySem.W.Frag) : R2 := fun x y H Q => rI0 (fun i j => V.int (i + j)) x y H Q ∨ ((∃ i j, x = .str i ∧ y = .str j ∧ i.length + j.length ≤ sizeLine ∧ Q (.str (i ++ j)) H) ∨ (rCatA K x y H Q ∨ rCat x y H Q))
theorem op_addD : OpR X (binaryOp .Add) (rAddD X.K) := op_add.or (op_add_str.or (op_catA.or op_cat))
theorem od_add : OD k (rAddD k.K) addG := by
  intro p M H x y v u o Q W σ R q1 q2 e po
  cases x with
  | int a =>
    cases y with
    | int b =>
      cases e
      unfold Rep at q1 q2
      exact .inl ⟨a, b, q1, q2, po.ok R rep_int⟩
    | _ => cases e
  | str a =>
    cases y with
    | str b =>
      unfold addG at e
      simp only at e
      split at e
      · rename_i hl
        cases e
        unfold Rep at q1 q2
        exact .inr (.inl ⟨a, b, q1, q2, line_eq hl, po.ok R rep_str⟩)
      · cases e
    | _ => cases e
  | tup a =>
    cases y with
    | tup b =>
      unfold addG at e
      simp only at e
      split at e
      · rename_i hl
        cases e
        unfold Rep at q1 q2
        obtain ⟨l1, vs, rfl, s1, r1⟩ := q1
        obtain ⟨l2, ws, rfl, s2, r2⟩ := q2
        have e1 := reps_len r1
        have e2 := reps_len r2
        refine .inr (.inr (.inl ⟨l1, l2, vs, ws, rfl, rfl, s1, s2, line_eq (by omega), fun h => ?_, fun h1 h2 => ?_, fun h1 h2 => ?_⟩))
        · subst h
          have : a = [] := by cases a with | nil => rfl | cons _ _ => simp at e1
          subst this
          exact po.ok R (rep_tup s2 r2)
        · subst h2
          have : b = [] := by cases b with | nil => rfl | cons _ _ => simp at e2
          subst this
          rw [List.append_nil] at po
          exact po.ok R (rep_tup s1 r1)
        · exact po_tup R po (reps_app r1 r2)
      · cases e
    | _ => cases e
  | ref i =>
    cases y with
    | ref j =>
      unfold addG at e
      simp only at e
      split at e
      · rename_i a b h1 h2
        split at e
        · rename_i hl
          cases e
          obtain ⟨l1, vs, rfl, _, s1, r1⟩ := rep_lst R q1 h1
          obtain ⟨l2, ws, rfl, _, s2, r2⟩ := rep_lst R q2 h2
          have e1 := reps_len r1
          have e2 := reps_len r2
          exact .inr (.inr (.inr ⟨l1, l2, vs, ws, rfl, rfl, s1, s2, line_eq (by omega), po_lst R po (reps_app r1 r2)⟩))
        · cases e
      · cases e
    | _ => cases e
  | _ => cases y <;> cases e
theorem od_I {C : Int → Int → Prop} {f : Int → Int → Int} {g : G2} (h : ∀ x y M o, g x y M = some o → ∃ a b, x = .int a ∧ y = .int b ∧ C a b ∧ o = .ok (.int (f a b)) M) : OD k (rI C fun i j => .int (f i j)) g := by
  intro p M H x y v u o Q W σ R q1 q2 e po
  obtain ⟨a, b, rfl, rfl, c, rfl⟩ := h x y M o e
  unfold Rep at q1 q2
  exact ⟨a, b, q1, q2, c, po.ok R rep_int⟩
theorem od_B {f : Int → Int → Bool} {g : G2} (h : ∀ x y M o, g x y M = some o → ∃ a b, x = .int a ∧ y = .int b ∧ o = .ok (.bl (f a b)) M) : OD k (rI0 fun i j => .bl (f i j)) g := by
  intro p M H x y v u o Q W σ R q1 q2 e po
  obtain ⟨a, b, rfl, rfl, rfl⟩ := h x y M o e
  unfold Rep at q1 q2
  exact ⟨a, b, q1, q2, po.ok R rep_bl⟩
theorem od_addI : OD k (rI0 fun i j => .int (i + j)) addIG := by
  intro p M H x y v u o Q W σ R q1 q2 e po
  cases x with
  | int a =>
    cases y with
    | int b =>
      cases e
      unfold Rep at q1 q2
      exact ⟨a, b, q1, q2, po.ok R rep_int⟩
    | _ => cases e
  | _ => cases y <;> cases e
theorem od_mulI : OD k (rI CMul fun i j => .int (i * j)) mulIG := od_I fun x y M o e => by
  unfold mulIG at e
  split at e
  · split at e
    · rename_i h
      cases e
      exact ⟨_, _, rfl, rfl, h, rfl⟩
    · cases e
  · cases e
theorem od_sub : OD k (rI0 fun i j => .int (i - j)) subG := by
  intro p M H x y v u o Q W σ R q1 q2 e po
  cases x with
  | int a =>
    cases y with
    | int b =>
      cases e
      unfold Rep at q1 q2
      exact ⟨a, b, q1, q2, po.ok R rep_int⟩
    | _ => cases e
  | _ => cases y <;> cases e
def rMulD : R2 := fun x y H Q => rI CMul (fun i j => V.int (i * j)) x y H Q ∨ rI CMulW (fun i j => V.int (i * j)) x y H Q
theorem op_mulD : OpR X (binaryOp .Mult) rMulD := op_mul.or op_mulW
theorem od_mul : OD k rMulD mulG := by
  intro p M H x y v u o Q W σ R q1 q2 e po
  cases x with
  | int a =>
    cases y with
    | int b =>
      unfold mulG at e
      simp only at e
      split at e
      · rename_i h
        cases e
        unfold Rep at q1 q2
        rcases h with h | h | h
        · exact .inl ⟨a, b, q1, q2, .inl h, po.ok R rep_int⟩
        · exact .inl ⟨a, b, q1, q2, .inr h, po.ok R rep_int⟩
        · exact .inr ⟨a, b, q1, q2, h, po.ok R rep_int⟩
      · cases e
    | _ => cases e
  | _ => cases y <;> cases e
theorem od_div : OD k (rI CDivW fun i j => .int (i / j)) divG := od_I fun x y M o e => by
  unfold divG at e
  split at e
  · split at e
    · rename_i h
      cases e
      exact ⟨_, _, rfl, rfl, h, rfl⟩
    · cases e
  · cases e
theorem od_mod : OD k (rI (fun _ j => 0 < j) fun i j => .int (i % j)) modG := od_I fun x y M o e => by
  unfold modG at e
  split at e
  · split at e
    · rename_i h
      cases e
      exact ⟨_, _, rfl, rfl, h, rfl⟩
    · cases e
  · cases e
theorem od_pow : OD k (rI CPow fun i j => .int (i ^ j.toNat)) powG := od_I fun x y M o e => by
  unfold powG at e
  split at e
  · split at e
    · rename_i h
      cases e
      exact ⟨_, _, rfl, rfl, h, rfl⟩
    · cases e
  · cases e
theorem od_shl : OD k (rI CPow fun i j => .int (i * 2 ^ j.toNat)) shlG := od_I fun x y M o e => by
  unfold shlG at e
  split at e
  · split at e
    · rename_i h
      cases e
      exact ⟨_, _, rfl, rfl, h, rfl⟩
    · cases e
  · cases e
theorem ou_neg : OU k (rU fun i => .int (-i)) negG := by
  intro p M H x v o Q W σ R q e po
  cases x with
  | int a =>
    cases e
    unfold Rep at q
    exact ⟨a, q, po.ok R rep_int⟩
  | _ => cases e
theorem od_lt : OD k (rI0 fun i j => .bl (decide (i < j))) ltG := od_B fun x y M o e => by
  unfold ltG at e
  split at e
  · cases e
    exact ⟨_, _, rfl, rfl, rfl⟩
  · cases e
theorem od_le : OD k (rI0 fun i j => .bl (decide (i ≤ j))) leG := od_B fun x y M o e => by
  unfold leG at e
  split at e
  · cases e
    exact ⟨_, _, rfl, rfl, rfl⟩
  · cases e
theorem od_gt : OD k (rI0 fun i j => .bl (decide (j < i))) gtG := od_B fun x y M o e => by
  unfold gtG at e
  split at e
  · cases e
    exact ⟨_, _, rfl, rfl, rfl⟩
  · cases e
theorem od_ge : OD k (rI0 fun i j => .bl (decide (j ≤ i))) geG := od_B fun x y M o e => by
  unfold geG at e
  split at e
  · cases e
    exact ⟨_, _, rfl, rfl, rfl⟩
  · cases e
end

/-! ### == -/
section
variable {K : PySem.W.Frag} {mg : Str → Option Value} {p : List Addr} {M : Hd} {H : Hp}
theorem toP_ok (R : Rl K mg p M H) : ∀ (n : Nat) (d : D) (v : V) (e : PyData), Rep K p H d v → toP M n d = some e → Dp K H v e ∧ e.plain = true ∧ e.depth ≤ n := by
  intro n
  have all : ∀ (n : Nat) (_ : ∀ (d : D) (v : V) (e : PyData), Rep K p H d v → toP M n d = some e → Dp K H v e ∧ e.plain = true ∧ e.depth ≤ n) (ds : List D) (vs : List V) (es : List PyData), Reps K p H ds vs → ds.mapM (toP M n) = some es →
      DpAll K H vs es ∧ PyData.plainAll es = true ∧ PyData.depthAll es ≤ n := by
    intro n ih ds
    induction ds with
    | nil =>
      intro vs es h e
      unfold Reps at h
      subst h
      simp at e
      subst e
      exact ⟨.nil, rfl, Nat.zero_le _⟩
    | cons d ds ih2 =>
      intro vs es h e
      unfold Reps at h
      obtain ⟨v, ws, rfl, r, q⟩ := h
      rw [List.mapM_cons] at e
      cases e1 : toP M n d with
      | none => rw [e1] at e; cases e
      | some x =>
        cases e2 : ds.mapM (toP M n) with
        | none => rw [e1, e2] at e; cases e
        | some xs =>
          rw [e1, e2] at e
          cases e
          obtain ⟨a1, a2, a3⟩ := ih d v x r e1
          obtain ⟨b1, b2, b3⟩ := ih2 ws xs q e2
          refine ⟨.cons a1 b1, ?_, ?_⟩
          · show (x.plain && PyData.plainAll xs) = true
            rw [a2, b2]
            rfl
          · show max x.depth (PyData.depthAll xs) ≤ n
            omega
  induction n with
  | zero =>
    intro d v e h q
    cases d with
    | non => unfold toP at q; cases q; unfold Rep at h; subst h; exact ⟨.non, rfl, Nat.le_refl _⟩
    | bl b => unfold toP at q; cases q; unfold Rep at h; subst h; exact ⟨.bl _, rfl, Nat.le_refl _⟩
    | int b => unfold toP at q; cases q; unfold Rep at h; subst h; exact ⟨.int _, rfl, Nat.le_refl _⟩
    | str b => unfold toP at q; cases q; unfold Rep at h; subst h; exact ⟨.str _, rfl, Nat.le_refl _⟩
    | _ => unfold toP at q; cases q
  | succ n ih =>
    intro d v e h q
    cases d with
    | non => unfold toP at q; cases q; unfold Rep at h; subst h; exact ⟨.non, rfl, Nat.zero_le _⟩
    | bl b => unfold toP at q; cases q; unfold Rep at h; subst h; exact ⟨.bl _, rfl, Nat.zero_le _⟩
    | int b => unfold toP at q; cases q; unfold Rep at h; subst h; exact ⟨.int _, rfl, Nat.zero_le _⟩
    | str b => unfold toP at q; cases q; unfold Rep at h; subst h; exact ⟨.str _, rfl, Nat.zero_le _⟩
    | tup ds =>
      unfold toP at q
      cases e2 : ds.mapM (toP M n) with
      | none => rw [e2] at q; cases q
      | some xs =>
        rw [e2] at q
        cases q
        unfold Rep at h
        obtain ⟨a, vs, rfl, s, r⟩ := h
        obtain ⟨b1, b2, b3⟩ := all n ih ds vs xs r e2
        exact ⟨.tup s b1, b2, Nat.succ_le_succ b3⟩
    | fl ds =>
      unfold toP at q
      cases e2 : ds.mapM (toP M n) with
      | none => rw [e2] at q; cases q
      | some xs =>
        rw [e2] at q
        cases q
        obtain ⟨a, vs, rfl, s, r⟩ := rep_items (ds := ds) R h rfl
        obtain ⟨b1, b2, b3⟩ := all n ih ds vs xs r e2
        unfold Rep at h
        obtain ⟨a', vs', ea, s', r'⟩ := h
        cases ea
        obtain ⟨b1, b2, b3⟩ := all n ih ds vs' xs r' e2
        refine ⟨.lst ?_ b1, b2, Nat.succ_le_succ b3⟩
        rcases s' with ⟨o, s'⟩ | s'
        · exact .inl (.inr ⟨o, s'⟩)
        · exact s' H
    | ref i =>
      unfold toP at q
      split at q
      · rename_i ds ho
        cases e2 : ds.mapM (toP M n) with
        | none => rw [e2] at q; cases q
        | some xs =>
          rw [e2] at q
          cases q
          obtain ⟨a, vs, rfl, _, s, r⟩ := rep_lst R h ho
          obtain ⟨b1, b2, b3⟩ := all n ih ds vs xs r e2
          exact ⟨.lst (SqL.of s) b1, b2, Nat.succ_le_succ b3⟩
      · cases q
end
def rEqP (K : PySem.W.Frag) : R2 := fun x y H Q => ∃ d e, Dp K H x d ∧ Dp K H y e ∧ d.plain = true ∧ e.plain = true ∧ d.depth ≤ 64 ∧ Q (.bl (PyData.eqv d e)) H
def rNeP (K : PySem.W.Frag) : R2 := fun x y H Q => ∃ d e, Dp K H x d ∧ Dp K H y e ∧ d.plain = true ∧ e.plain = true ∧ d.depth ≤ 64 ∧ Q (.bl (!PyData.eqv d e)) H
theorem op_eqP (hu : X.A.units + 64 < cLine) : OpR X (compareOp .Eq) (rEqP X.K) := by
  intro pins s σ H x y v u Q I rx ry h
  obtain ⟨d, e, hd, he, sd, se, hz, q⟩ := h
  obtain ⟨as, r1⟩ := Dp.reads I d x v hd rx
  obtain ⟨bs, r2⟩ := Dp.reads I e y u he ry
  exact SeqAt.eq_plain r1 r2 sd se (by omega) ⟨.bl _, H, I, rfl, q⟩
theorem op_neP (hu : X.A.units + 64 < cLine) : OpR X (compareOp .NotEq) (rNeP X.K) := by
  intro pins s σ H x y v u Q I rx ry h
  obtain ⟨d, e, hd, he, sd, se, hz, q⟩ := h
  obtain ⟨as, r1⟩ := Dp.reads I d x v hd rx
  obtain ⟨bs, r2⟩ := Dp.reads I e y u he ry
  exact SeqAt.ne_plain r1 r2 sd se (by omega) ⟨.bl _, H, I, rfl, q⟩
theorem od_eq {k : Kx} : OD k (rEqP k.K) eqG := by
  intro p M H x y v u o Q W σ R q1 q2 e po
  have gen : ∀ {d e' : PyData}, toP M 9 x = some d → toP M 9 y = some e' → o = .ok (.bl (PyData.eqv d e')) M → rEqP k.K v u H Q := fun {d e'} h1 h2 ho => by
    subst ho
    obtain ⟨a1, a2, a3⟩ := toP_ok R 9 x v d q1 h1
    obtain ⟨b1, b2, b3⟩ := toP_ok R 9 y u e' q2 h2
    exact ⟨d, e', a1, b1, a2, b2, by omega, po.ok R rep_bl⟩
  unfold eqG at e
  split at e
  · cases e
    exact gen rfl rfl rfl
  · cases e
    exact gen rfl rfl rfl
  · split at e
    · rename_i h1 h2
      cases e
      exact gen h1 h2 rfl
    · cases e
theorem od_ne {k : Kx} : OD k (rNeP k.K) neG := by
  intro p M H x y v u o Q W σ R q1 q2 e po
  have gen : ∀ {d e' : PyData}, toP M 9 x = some d → toP M 9 y = some e' → o = .ok (.bl (!PyData.eqv d e')) M → rNeP k.K v u H Q := fun {d e'} h1 h2 ho => by
    subst ho
    obtain ⟨a1, a2, a3⟩ := toP_ok R 9 x v d q1 h1
    obtain ⟨b1, b2, b3⟩ := toP_ok R 9 y u e' q2 h2
    exact ⟨d, e', a1, b1, a2, b2, by omega, po.ok R rep_bl⟩
  unfold neG at e
  split at e
  · cases e
    exact gen rfl rfl rfl
  · cases e
    exact gen rfl rfl rfl
  · split at e
    · rename_i h1 h2
      cases e
      exact gen h1 h2 rfl
    · cases e
end
end DI

end

section
set_option Elab.async false
set_option linter.all false
set_option maxRecDepth 100000
set_option maxHeartbeats 4000000
/-! DI3: tests, calls, displays, items, statements, loops. -/
namespace DI
open PySem PySem.Spec PyProof.Rows L2

section
variable {X : Cx} {z : Zx} {W : WX} {a b c e : Expr} {fa fb fc f : EF} {t u : TF} {pos : Pos} {rest es : List Expr} {g : AF}
/-! ### tests -/
theorem dt_val (h : DE X z W e f) (he : ∀ whole, isTrue e X.env whole = (do let v ← whole; standAt e.pos; holding [v] (truthy v)) := by intro _; rfl) : DT X z W e (tVal f) :=
  (pt_val h he).imp fun _ _ _ q => gE_bOf q
theorem tru_of {k : Kx} {p : List Addr} {M : Hd} {H : Hp} {σ : L2.St} {Q : Bool → Hp → Prop} {d : D} {v : V} {o : Rs Bool} (R : Rl k.K k.mg p M H) (q : Rep k.K p H d v) (e : truD d M = some o) (po : PoE k W rB p H σ o Q) : ∃ b, TruV k.K v H b ∧ Q b H := by
  have emp : ∀ {ds : List D} {vs : List V}, Reps k.K p H ds vs → (!ds.isEmpty) = !vs.isEmpty := fun {ds vs} h => by
    have := reps_len h
    cases ds <;> cases vs <;> first | rfl | simp at this
  cases d with
  | non => cases e; unfold Rep at q; subst q; exact ⟨false, rfl, po.ok R rfl⟩
  | bl b => cases e; unfold Rep at q; subst q; exact ⟨b, rfl, po.ok R rfl⟩
  | int i => cases e; unfold Rep at q; subst q; exact ⟨_, rfl, po.ok R rfl⟩
  | str x =>
    unfold truD at e
    dsimp only at e
    split at e
    · rename_i hl
      cases e
      unfold Rep at q
      subst q
      exact ⟨_, ⟨line_eq hl, rfl⟩, po.ok R rfl⟩
    · cases e
  | tup ds =>
    cases e
    unfold Rep at q
    obtain ⟨a, vs, rfl, s, r⟩ := q
    exact ⟨_, .inr (.inl ⟨vs, s, rfl⟩), po.ok R (emp r).symm⟩
  | fl ds =>
    cases e
    obtain ⟨a, vs, rfl, s, r⟩ := rep_items (ds := ds) R q rfl
    rcases s with s | s
    · exact ⟨_, .inl ⟨vs, s, rfl⟩, po.ok R (emp r).symm⟩
    · exact ⟨_, .inr (.inl ⟨vs, s, rfl⟩), po.ok R (emp r).symm⟩
  | ref i =>
    unfold truD at e
    dsimp only at e
    split at e
    · rename_i ds ho
      cases e
      obtain ⟨a, vs, rfl, _, s, r⟩ := rep_lst R q ho
      exact ⟨_, .inl ⟨vs, SqL.of s, rfl⟩, po.ok R (emp r).symm⟩
    · cases e
theorem dt_tru (h : DE X z W e f) (he : ∀ whole, isTrue e X.env whole = (do let v ← whole; standAt e.pos; holding [v] (truthy v)) := by intro _; rfl) : DT X z W e (tTru f) := by
  refine (pt_truth h he).imp ?_
  rintro σ H Q ⟨p, M, ρ, o, R, L, e, po⟩
  exact gE_bnd R L e po fun d M1 p1 H1 v R1 L1 hl1 hp1 q1 e1 po1 => tru_of R1 q1 e1 po1
theorem gT_and {k : Kx} {σ : L2.St} {H : Hp} {Q : Bool → Hp → Prop} (q : gE k W rB (DI.tAnd t u) σ H Q) : L2.tAnd (gE k W rB t) (gE k W rB u) σ H Q := by
  obtain ⟨p, M, ρ, o, R, L, e, po⟩ := q
  refine gE_bnd R L e po fun d M1 p1 H1 v R1 L1 hl1 hp1 q1 e1 po1 => ?_
  cases q1
  cases d with
  | true => exact ⟨p1, M1, ρ, o, R1, L1, e1, po1⟩
  | false =>
    cases e1
    exact po1.ok R1 rfl
theorem gT_or {k : Kx} {σ : L2.St} {H : Hp} {Q : Bool → Hp → Prop} (q : gE k W rB (DI.tOr t u) σ H Q) : L2.tOr (gE k W rB t) (gE k W rB u) σ H Q := by
  obtain ⟨p, M, ρ, o, R, L, e, po⟩ := q
  refine gE_bnd R L e po fun d M1 p1 H1 v R1 L1 hl1 hp1 q1 e1 po1 => ?_
  cases q1
  cases d with
  | false => exact ⟨p1, M1, ρ, o, R1, L1, e1, po1⟩
  | true =>
    cases e1
    exact po1.ok R1 rfl
theorem dw_and1 (h : DT X z W a t) : DW X z W (.BoolOp .And [a] pos) t := pw_and1 h
theorem dw_or1 (h : DT X z W a t) : DW X z W (.BoolOp .Or [a] pos) t := pw_or1 h
theorem dw_and (ha : DT X z W a t) (hb : DW X z W (.BoolOp .And (b :: rest) pos) u) : DW X z W (.BoolOp .And (a :: b :: rest) pos) (DI.tAnd t u) := (pw_and ha hb).imp fun _ _ _ q => gT_and q
theorem dw_or (ha : DT X z W a t) (hb : DW X z W (.BoolOp .Or (b :: rest) pos) u) : DW X z W (.BoolOp .Or (a :: b :: rest) pos) (DI.tOr t u) := (pw_or ha hb).imp fun _ _ _ q => gT_or q
theorem dt_w (h : DW X z W e t) : DT X z W e t := PW.pt h
theorem dt_not (h : DT X z W a t) : DT X z W (.UnaryOp .Not a pos) (DI.tNot t) := by
  refine (pt_not h).imp ?_
  rintro σ H Q ⟨p, M, ρ, o, R, L, e, po⟩
  refine gE_bnd R L e po fun d M1 p1 H1 v R1 L1 hl1 hp1 q1 e1 po1 => ?_
  cases q1
  cases e1
  exact po1.ok R1 rfl
/-! ### and, or, not as values -/
theorem de_one {op : BoolOp} (h : DE X z W a fa) (hp : PE X (.BoolOp op [a] pos) (gE (Cx.k X z) W (rD (Cx.k X z)) fa)) : DE X z W (.BoolOp op [a] pos) fa := hp
theorem de_and (ha : DE X z W a fa) (hb : DE X z W (.BoolOp .And (b :: rest) pos) fb) : DE X z W (.BoolOp .And (a :: b :: rest) pos) (eAnd fa fb) := by
  refine (pe_and ha hb).imp ?_
  rintro σ H Q ⟨p, M, ρ, o, R, L, e, po⟩
  refine gE_bnd R L e po fun d M1 p1 H1 v R1 L1 hl1 hp1 q1 e1 po1 => ?_
  cases d with
  | bl i =>
    unfold Rep at q1
    subst q1
    refine ⟨i, rfl, ?_⟩
    cases i with
    | true => exact ⟨p1, M1, ρ, o, R1, L1, e1, po1⟩
    | false =>
      cases e1
      exact po1.ok R1 rep_bl
  | _ => cases e1
theorem de_or (ha : DE X z W a fa) (hb : DE X z W (.BoolOp .Or (b :: rest) pos) fb) : DE X z W (.BoolOp .Or (a :: b :: rest) pos) (eOr fa fb) := by
  refine (pe_or ha hb).imp ?_
  rintro σ H Q ⟨p, M, ρ, o, R, L, e, po⟩
  refine gE_bnd R L e po fun d M1 p1 H1 v R1 L1 hl1 hp1 q1 e1 po1 => ?_
  cases d with
  | bl i =>
    unfold Rep at q1
    subst q1
    refine ⟨i, rfl, ?_⟩
    cases i with
    | false => exact ⟨p1, M1, ρ, o, R1, L1, e1, po1⟩
    | true =>
      cases e1
      exact po1.ok R1 rep_bl
  | _ => cases e1
theorem de_not (ha : DE X z W a fa) : DE X z W (.UnaryOp .Not a pos) (eNot fa) := by
  refine (pe_not ha).imp ?_
  rintro σ H Q ⟨p, M, ρ, o, R, L, e, po⟩
  refine gE_bnd R L e po fun d M1 p1 H1 v R1 L1 hl1 hp1 q1 e1 po1 => ?_
  cases d with
  | bl i =>
    unfold Rep at q1
    subst q1
    cases e1
    exact ⟨i, rfl, po1.ok R1 rep_bl⟩
  | _ => cases e1
theorem de_andE (h : DE X z W a fa) : DE X z W (.BoolOp .And [a] pos) fa := pe_one h
theorem de_orE (h : DE X z W a fa) : DE X z W (.BoolOp .Or [a] pos) fa := pe_one h
theorem de_if (ht : DT X z W c t) (ha : DE X z W a fa) (hb : DE X z W b fb) : DE X z W (.IfExp c a b pos) (eIf t fa fb) := by
  refine (pe_ifExp ht ha hb).imp ?_
  rintro σ H Q ⟨p, M, ρ, o, R, L, e, po⟩
  refine gE_bnd R L e po fun d M1 p1 H1 v R1 L1 hl1 hp1 q1 e1 po1 => ?_
  cases q1
  cases d with
  | true => exact ⟨p1, M1, ρ, o, R1, L1, e1, po1⟩
  | false => exact ⟨p1, M1, ρ, o, R1, L1, e1, po1⟩
theorem gE_chain {k : Kx} {r r' : R2} {g g' : G2} (h : OD k r g) (h' : OD k r' g') {σ : L2.St} {H : Hp} {Q : VK} (q : gE k W (rD k) (eChain g g' fa fb fc) σ H Q) :
    tChain r r' (gE k W (rD k) fa) (gE k W (rD k) fb) (gE k W (rD k) fc) σ H Q := by
  obtain ⟨p, M, ρ, o, R, L, e, po⟩ := q
  refine gE_bnd R L e po fun d M1 p1 H1 v R1 L1 hl1 hp1 q1 e1 po1 => ?_
  refine gE_bnd R1 L1 e1 po1 fun d2 M2 p2 H2 w R2 L2 hl2 hp2 q2 e2 po2 => ?_
  cases eg : g d d2 M2 with
  | none => rw [eg] at e2; exact nomatch e2
  | some x =>
    refine h W σ R2 (Rep.up hp2 hl2 _ q1) q2 eg ?_
    rw [eg] at e2
    cases x with
    | er c M3 =>
      cases e2
      exact po2
    | ok d3 M3 =>
      intro p3 H3 v3 hp3 hl3 R3 q3
      dsimp only [bnd_ok] at e2
      cases d3 with
      | bl i =>
        unfold Rep at q3
        subst q3
        refine ⟨i, rfl, ?_⟩
        have po3 : PoE k W (rD k) p3 H3 σ o Q := by
          cases o with
          | ok d2 M2 => exact fun p2 H2 v2 hp2 hl2 R2 q2 => po2 p2 H2 v2 (hp3.trans hp2) (hl3.trans hl2) R2 q2
          | er c M2 => exact fun p2 H2 C hp2 hl2 R2 q2 => po2 p2 H2 C (hp3.trans hp2) (hl3.trans hl2) R2 q2
        cases i with
        | true =>
          refine gE_bnd R3 (L2.up hp3 hl3) e2 po3 fun d4 M4 p4 H4 w4 R4 L4 hl4 hp4 q4 e4 po4 => ?_
          exact h' W σ R4 (Rep.up (hp3.trans hp4) (hl3.trans hl4) _ q2) q4 e4 po4
        | false =>
          cases e2
          exact po3.ok R3 rep_bl
      | _ => exact nomatch e2
theorem de_chain {op op' : CmpOp} {r r' : R2} {g g' : G2} (ho : OpR X (compareOp op) r) (h : OD (Cx.k X z) r g) (ho' : OpR X (compareOp op') r') (h' : OD (Cx.k X z) r' g') (ha : DE X z W a fa) (hb : DE X z W b fb) (hc : DE X z W c fc)
    (hm : lastMarks [op, op'] [b, c] = false := by with_unfolding_all rfl) : DE X z W (.Compare a [op, op'] [b, c] pos) (eChain g g' fa fb fc) :=
  (pe_chain ho ho' ha hb hc hm).imp fun _ _ _ q => gE_chain h h' q
theorem dt_chain {op op' : CmpOp} {r r' : R2} {g g' : G2} (ho : OpR X (compareOp op) r) (h : OD (Cx.k X z) r g) (ho' : OpR X (compareOp op') r') (h' : OD (Cx.k X z) r' g') (ha : DE X z W a fa) (hb : DE X z W b fb) (hc : DE X z W c fc)
    (hm : lastMarks [op, op'] [b, c] = false := by with_unfolding_all rfl) : DT X z W (.Compare a [op, op'] [b, c] pos) (tVal (eChain g g' fa fb fc)) := by
  refine (pt_chain ho ho' ha hb hc hm).imp fun σ H Q q => ?_
  have q2 := gE_bOf q
  exact gE_chain (Q := fun x H' => ∃ c, x = .bl c ∧ Q c H') h h' q2
/-- is None -/
theorem rep_isN {K : PySem.W.Frag} {p : List Addr} {H : Hp} {d : D} {v : V} (q : Rep K p H d v) : decide (v = .non) = d.isNon := by
  cases d <;> (unfold Rep at q) <;> first
    | (subst q; rfl)
    | (obtain ⟨a, vs, rfl, _⟩ := q; rfl)
    | (obtain ⟨a, _, rfl⟩ := q; rfl)
theorem de_isN {j : Nat} {pos' : Pos} (ha : DE X z W a fa) : DE X z W (.Compare a [.Is] [.Constant .none j pos'] pos) (isN fa) := by
  refine (pe_cmp (pc_isN ha)).imp ?_
  rintro σ H Q ⟨p, M, ρ, o, R, L, e, po⟩
  refine gE_bnd R L e po fun d M1 p1 H1 v R1 L1 hl1 hp1 q1 e1 po1 => ?_
  cases e1
  rw [rep_isN q1]
  exact po1.ok R1 rep_bl
theorem de_isNN {j : Nat} {pos' : Pos} (ha : DE X z W a fa) : DE X z W (.Compare a [.IsNot] [.Constant .none j pos'] pos) (isNN fa) := by
  refine (pe_cmp (pc_notN ha)).imp ?_
  rintro σ H Q ⟨p, M, ρ, o, R, L, e, po⟩
  refine gE_bnd R L e po fun d M1 p1 H1 v R1 L1 hl1 hp1 q1 e1 po1 => ?_
  cases e1
  rw [rep_isN q1]
  exact po1.ok R1 rep_bl
theorem dt_isN {j : Nat} {pos' : Pos} (ha : DE X z W a fa) : DT X z W (.Compare a [.Is] [.Constant .none j pos'] pos) (tVal (isN fa)) := by
  refine (pt_cmp (pc_isN ha)).imp fun σ H Q q => ?_
  obtain ⟨p, M, ρ, o, R, L, e, po⟩ := gE_bOf q
  refine gE_bnd R L e po fun d M1 p1 H1 v R1 L1 hl1 hp1 q1 e1 po1 => ?_
  cases e1
  rw [rep_isN q1]
  exact po1.ok R1 rep_bl
theorem dt_isNN {j : Nat} {pos' : Pos} (ha : DE X z W a fa) : DT X z W (.Compare a [.IsNot] [.Constant .none j pos'] pos) (tVal (isNN fa)) := by
  refine (pt_cmp (pc_notN ha)).imp fun σ H Q q => ?_
  obtain ⟨p, M, ρ, o, R, L, e, po⟩ := gE_bOf q
  refine gE_bnd R L e po fun d M1 p1 H1 v R1 L1 hl1 hp1 q1 e1 po1 => ?_
  cases e1
  rw [rep_isN q1]
  exact po1.ok R1 rep_bl

/-! ### arguments, displays, calls -/
theorem da_nil : DA X z W [] aNil := by
  refine pa_nil.imp ?_
  rintro σ H Q ⟨p, M, ρ, o, R, L, e, po⟩
  cases e
  exact po.ok R reps_nil
theorem da_cons (ha : DE X z W e f) (hr : DA X z W es g) (hs : starEach (e :: es) X.env = (false, eval e X.env) :: starEach es X.env := by rfl) : DA X z W (e :: es) (aCons f g) := by
  refine (pa_cons ha hr hs).imp ?_
  rintro σ H Q ⟨p, M, ρ, o, R, L, e, po⟩
  refine gE_bnd R L e po fun d M1 p1 H1 v R1 L1 hl1 hp1 q1 e1 po1 => ?_
  refine gE_bnd R1 L1 e1 po1 fun ds M2 p2 H2 vs R2 L2 hl2 hp2 q2 e2 po2 => ?_
  cases e2
  exact po2.ok R2 (reps_cons (Rep.up hp2 hl2 _ q1) q2)
theorem de_tup {x1 : Nat} (h : DA X z W es g) : DE X z W (.Tuple es x1 pos) (eTup g) := by
  refine (pe_tup h).imp ?_
  rintro σ H Q ⟨p, M, ρ, o, R, L, e, po⟩
  refine gE_bnd R L e po fun ds M1 p1 H1 vs R1 L1 hl1 hp1 q1 e1 po1 => ?_
  split at e1
  · rename_i hl
    cases e1
    exact ⟨by rw [← reps_len q1]; exact line_eq hl, po_tup R1 po1 q1⟩
  · cases e1
theorem de_lst (h : DA X z W es g) : DE X z W (.List es pos) (eLst g) := by
  refine (pe_lst h).imp ?_
  rintro σ H Q ⟨p, M, ρ, o, R, L, e, po⟩
  refine gE_bnd R L e po fun ds M1 p1 H1 vs R1 L1 hl1 hp1 q1 e1 po1 => ?_
  split at e1
  · rename_i hl
    cases e1
    exact ⟨by rw [← reps_len q1]; exact line_eq hl, po_lst R1 po1 q1⟩
  · cases e1
/-- what a def promises: its mirror -/
def spD (K : PySem.W.Frag) (mg : Str → Option Value) (n : Nat) (m : List D → Hd → Option (Rs D)) : Sp := fun vs H Q E => ∃ p M ds o, Rl K mg p M H ∧ Reps K p H ds vs ∧ ds.length = n ∧ m ds M = some o ∧ match o with
  | .ok d M' => ∀ p' H' v, p <+: p' → Le H H' → Rl K mg p' M' H' → Rep K p' H' d v → Q v H'
  | .er c M' => ∀ p' H' C, p <+: p' → Le H H' → Rl K mg p' M' H' → mg c = some (.ref C) → E (.ref C) none H'
/-- a def of the module, by its mirror -/
structure Dfn (P : Program) (w : World) (K : PySem.W.Frag) (mg : Str → Option Value) (base : Heap) (k : Nat) (x : Str) (n : Nat) (m : List D → Hd → Option (Rs D)) : Prop where
  ln : ∀ ds M o, m ds M = some o → ds.length = n
  ex : ∃ f fd ps, mg x = some (.ref f) ∧ PySem.W.keepIn K (.ref f) = true ∧ Binds K fd ps [] ∧ FnOk P w K mg base (L2.CX P w) k f fd ps (spD K mg n m)
theorem Dfn.mono {P : Program} {w : World} {K : PySem.W.Frag} {mg : Str → Option Value} {base : Heap} {j k : Nat} {x : Str} {n : Nat} {m : List D → Hd → Option (Rs D)} (h : Dfn P w K mg base j x n m) (hk : j ≤ k) : Dfn P w K mg base k x n m := by
  obtain ⟨f, fd, ps, a, b, c, d⟩ := h.ex
  exact ⟨h.ln, f, fd, ps, a, b, c, d.mono hk⟩
/-- with a mirror that says less -/
theorem Dfn.imp {P : Program} {w : World} {K : PySem.W.Frag} {mg : Str → Option Value} {base : Heap} {k : Nat} {x : Str} {n : Nat} {m m' : List D → Hd → Option (Rs D)} (h : Dfn P w K mg base k x n m) (hm : ∀ ds M o, m' ds M = some o → m ds M = some o) : Dfn P w K mg base k x n m' := by
  obtain ⟨f, fd, ps, a, b, c, d⟩ := h.ex
  refine ⟨fun ds M o e => h.ln ds M o (hm ds M o e), f, fd, ps, a, b, c, d.imp ?_⟩
  rintro vs H Q E ⟨p, M, ds, o, R, L, l, e, po⟩
  exact ⟨p, M, ds, o, R, L, l, hm ds M o e, po⟩
theorem sp_of {k : Kx} {n : Nat} {m : List D → Hd → Option (Rs D)} {p : List Addr} {M : Hd} {H : Hp} {σ : L2.St} {Q : VK} {ds : List D} {vs : List V} {o : Rs D} (R : Rl k.K k.mg p M H) (q : Reps k.K p H ds vs) (hn : ds.length = n) (e : m ds M = some o) (po : PoE k W (rD k) p H σ o Q) :
    spD k.K k.mg n m vs H Q (fun cls d H' => W cls d σ H') := by
  refine ⟨p, M, ds, o, R, q, hn, e, ?_⟩
  cases o with
  | ok d M' => exact po
  | er c M' => exact po
theorem de_call {k n : Nat} {x : Str} {m : List D → Hd → Option (Rs D)} {p' : Pos} (F : Dfn X.prog X.w X.K X.mg X.base k x n m) (tk : Takes X W) (hr : Room k X.A) (ha : DA X z W (e :: es) g) (hg : Gl X x := by rfl) (hdb : (x == ("__debug__" : Str)) = false := by decide)
    (he : starEach (e :: es) X.env = (false, eval e X.env) :: starEach es X.env := by rfl) (hpl : (backTo pos (starEach es X.env)).any (·.1) = false := by rfl) : DE X z W (.Call (.Name x p') (e :: es) [] pos) (eCall m g) := by
  obtain ⟨f, fd, ps, h1, h2, h3, h4⟩ := F.ex
  refine (pe_callSD h4 hr hg h1 h2 h3 .nil (E := fun σ cls d H' => W cls d σ H') (fun σ => passAt tk σ) ha hdb he hpl).imp ?_
  rintro σ H Q ⟨p, M, ρ, o, R, L, e, po⟩
  refine gE_bnd R L e po fun ds M1 p1 H1 vs R1 L1 hl1 hp1 q1 e1 po1 => ?_
  rw [List.append_nil]
  exact sp_of R1 q1 (F.ln _ _ _ e1) e1 po1

/-! ### len, items -/
theorem len_of {k : Kx} {p : List Addr} {M : Hd} {H : Hp} {σ : L2.St} {Q : VK} {d : D} {v : V} {o : Rs D} (R : Rl k.K k.mg p M H) (q : Rep k.K p H d v) (e : lenD d M = some o) (po : PoE k W (rD k) p H σ o Q) : ∃ n, LenV k.K v H n ∧ Q (.int n) H := by
  cases d with
  | str x =>
    unfold lenD at e
    dsimp only at e
    split at e
    · rename_i hl
      cases e
      unfold Rep at q
      subst q
      exact ⟨_, ⟨line_eq hl, rfl⟩, po.ok R rep_int⟩
    · cases e
  | tup ds =>
    cases e
    obtain ⟨a, vs, rfl, s, r⟩ := rep_items (ds := ds) R q rfl
    exact ⟨vs.length, s.elim (fun s => .inl ⟨vs, s, rfl⟩) fun s => .inr ⟨vs, s, rfl⟩, po.ok R (by rw [reps_len r]; exact rep_int)⟩
  | fl ds =>
    cases e
    obtain ⟨a, vs, rfl, s, r⟩ := rep_items (ds := ds) R q rfl
    exact ⟨vs.length, s.elim (fun s => .inl ⟨vs, s, rfl⟩) fun s => .inr ⟨vs, s, rfl⟩, po.ok R (by rw [reps_len r]; exact rep_int)⟩
  | ref i =>
    unfold lenD at e
    dsimp only at e
    split at e
    · rename_i ds ho
      cases e
      obtain ⟨a, vs, rfl, _, s, r⟩ := rep_lst R q ho
      exact ⟨vs.length, .inl ⟨vs, SqL.of s, rfl⟩, po.ok R (by rw [reps_len r]; exact rep_int)⟩
    · cases e
  | _ => cases e
theorem de_len {p' : Pos} (ha : DE X z W e f) (hm : X.mg "len" = none) (hg : Gl X "len" := by rfl) (he : starEach [e] X.env = (false, eval e X.env) :: starEach [] X.env := by rfl) : DE X z W (.Call (.Name "len" p') [e] [] pos) (eUn lenD f) := by
  refine (pe_callB call_len hg hm PySem.boot_len (pa_cons ha pa_nil he) (he := he)).imp ?_
  rintro σ H Q ⟨p, M, ρ, o, R, L, e, po⟩
  refine gE_bnd R L e po fun d M1 p1 H1 v R1 L1 hl1 hp1 q1 e1 po1 => ?_
  obtain ⟨n, h1, h2⟩ := len_of R1 q1 e1 po1
  exact ⟨v, n, rfl, h1, h2⟩
theorem od_ix {k : Kx} : OD k (rIx k.K) ixG := by
  intro p M H x y v u o Q W σ R q1 q2 e po
  cases y with
  | int i =>
    unfold Rep at q2
    subst q2
    have got : ∀ {ds : List D} {vs : List V}, Reps k.K p H ds vs → pr M (atI ds i) = some o → ∃ w, atI vs i = some w ∧ Q w H := fun {ds vs} r e => by
      cases e2 : atI ds i with
      | none => rw [e2] at e; cases e
      | some d =>
        rw [e2] at e
        cases e
        obtain ⟨w, h1, h2⟩ := reps_atI r e2
        exact ⟨w, h1, po.ok R h2⟩
    cases x with
    | tup ds =>
      unfold Rep at q1
      obtain ⟨a, vs, rfl, s, r⟩ := q1
      obtain ⟨w, h1, h2⟩ := got r e
      exact .inr (.inl ⟨a, vs, i, w, rfl, rfl, s, h1, h2⟩)
    | fl ds =>
      obtain ⟨a, vs, rfl, s, r⟩ := rep_items (ds := ds) R q1 rfl
      obtain ⟨w, h1, h2⟩ := got r e
      rcases s with s | s
      · exact .inl ⟨a, vs, i, w, rfl, rfl, s, h1, h2⟩
      · exact .inr (.inl ⟨a, vs, i, w, rfl, rfl, s, h1, h2⟩)
    | ref j =>
      unfold ixG at e
      dsimp only at e
      split at e
      · rename_i ds ho
        obtain ⟨a, vs, rfl, _, s, r⟩ := rep_lst R q1 ho
        obtain ⟨w, h1, h2⟩ := got r e
        exact .inl ⟨a, vs, i, w, rfl, rfl, SqL.of s, h1, h2⟩
      · cases e
    | str x =>
      unfold ixG at e
      dsimp only at e
      split at e
      · rename_i hl
        unfold Rep at q1
        subst q1
        cases e2 : atI x.cps.toList i with
        | none => rw [e2] at e; cases e
        | some c =>
          rw [e2] at e
          cases e
          exact .inr (.inr ⟨x, i, c, rfl, rfl, line_eq hl, e2, po.ok R rep_str⟩)
      · cases e
    | _ => cases e
  | _ => cases e
theorem de_ix (ha : DE X z W a fa) (hb : DE X z W b fb) (hs : PlainIx b := by exact fun _ _ => rfl) : DE X z W (.Subscript a b pos) (eOp ixG fa fb) :=
  (pe_ix ix_seq ha hb hs).imp fun _ _ _ q => gE_op od_ix q
end

/-! ### statements -/
def PoS (k : Kx) (W : WX) (p : List Addr) (H : Hp) (o : Fl × Hd) (Dn : Ends) : Prop := match o with
  | (.nx r, M) => ∀ p' H' σ', p <+: p' → Le H H' → Rl k.K k.mg p' M H' → Sl k.K k.z p' H' r σ' → Dn.nx σ' H'
  | (.bk r, M) => ∀ p' H' σ', p <+: p' → Le H H' → Rl k.K k.mg p' M H' → Sl k.K k.z p' H' r σ' → Dn.bk σ' H'
  | (.ct r, M) => ∀ p' H' σ', p <+: p' → Le H H' → Rl k.K k.mg p' M H' → Sl k.K k.z p' H' r σ' → Dn.ct σ' H'
  | (.rt d, M) => ∀ p' H' v, p <+: p' → Le H H' → Rl k.K k.mg p' M H' → Rep k.K p' H' d v → Dn.rt v H'
  | (.xx c r, M) => ∀ p' H' σ' C, p <+: p' → Le H H' → Rl k.K k.mg p' M H' → Sl k.K k.z p' H' r σ' → k.mg c = some (.ref C) → W (.ref C) none σ' H'
theorem PoS.up {k : Kx} {W : WX} {p p1 : List Addr} {H H1 : Hp} {o : Fl × Hd} {Dn : Ends} (h : PoS k W p H o Dn) (hp : p <+: p1) (hl : Le H H1) : PoS k W p1 H1 o Dn := by
  obtain ⟨f, M⟩ := o
  cases f with
  | nx r => exact fun p' H' s' a b c d => h p' H' s' (hp.trans a) (hl.trans b) c d
  | bk r => exact fun p' H' s' a b c d => h p' H' s' (hp.trans a) (hl.trans b) c d
  | ct r => exact fun p' H' s' a b c d => h p' H' s' (hp.trans a) (hl.trans b) c d
  | rt r => exact fun p' H' s' a b c d => h p' H' s' (hp.trans a) (hl.trans b) c d
  | xx c r => exact fun p' H' s' C a b c d => h p' H' s' C (hp.trans a) (hl.trans b) c d
def gS (k : Kx) (W : WX) (g : SF) : TS := fun Dn σ H => ∃ p M r o, Rl k.K k.mg p M H ∧ Sl k.K k.z p H r σ ∧ g r M = some o ∧ PoS k W p H o Dn
def DS (X : Cx) (z : Zx) (W : WX) (st : Stmt) (g : SF) : Prop := PS X st (gS (Cx.k X z) W g)
def DSs (X : Cx) (z : Zx) (W : WX) (st : List Stmt) (g : SF) : Prop := PSs X st (gS (Cx.k X z) W g)
section
variable {k : Kx} {W : WX} {α β : Type} {Re : List Addr → Hp → α → β → Prop}
theorem gE_exB {f : Ev → Hd → Option (Rs α)} {g : α → Hd → Option (Fl × Hd)} {r : Ev} {M : Hd} {p : List Addr} {σ : L2.St} {H : Hp} {o : Fl × Hd} {Dn : Ends} {S : β → Hp → Prop} (R : Rl k.K k.mg p M H) (L : Sl k.K k.z p H r σ)
    (e : exB (f r M) r g = some o) (po : PoS k W p H o Dn)
    (h : ∀ d M1 p1 H1 v, Rl k.K k.mg p1 M1 H1 → Sl k.K k.z p1 H1 r σ → Le H H1 → p <+: p1 → Re p1 H1 d v → g d M1 = some o → PoS k W p1 H1 o Dn → S v H1) : gE k W Re f σ H S := by
  cases ef : f r M with
  | none => rw [ef] at e; exact nomatch e
  | some x =>
    refine ⟨p, M, r, x, R, L, ef, ?_⟩
    rw [ef] at e
    cases x with
    | er c M1 =>
      cases e
      exact fun p1 H1 C hp hl R1 q => po p1 H1 σ C hp hl R1 (L.up hp hl) q
    | ok d M1 =>
      intro p1 H1 v hp hl R1 q
      exact h d M1 p1 H1 v R1 (L.up hp hl) hl hp q e (po.up hp hl)
end
theorem PoS.nx {k : Kx} {W : WX} {p : List Addr} {H : Hp} {r : Ev} {M : Hd} {Dn : Ends} (po : PoS k W p H (.nx r, M) Dn) {σ : L2.St} (R : Rl k.K k.mg p M H) (L : Sl k.K k.z p H r σ) : Dn.nx σ H := po p H σ (List.prefix_refl p) (Le.refl H) R L
theorem PoS.rt {k : Kx} {W : WX} {p : List Addr} {H : Hp} {d : D} {M : Hd} {Dn : Ends} (po : PoS k W p H (.rt d, M) Dn) {v : V} (R : Rl k.K k.mg p M H) (q : Rep k.K p H d v) : Dn.rt v H := po p H v (List.prefix_refl p) (Le.refl H) R q
section
variable {X : Cx} {z : Zx} {W : WX} {a b c e : Expr} {fa fb fc f : EF} {t u : TF} {pos : Pos} {st : Stmt} {rest sa sb : List Stmt} {g h : SF}
theorem dss_nil : DSs X z W [] sNil := by
  refine pss_nil.imp ?_
  rintro Dn σ H ⟨p, M, ρ, o, R, L, e, po⟩
  cases e
  exact po.nx R L
theorem dss_cons (h1 : DS X z W st g) (h2 : DSs X z W rest h) : DSs X z W (st :: rest) (sSeq g h) := by
  refine (pss_cons h1 h2).imp ?_
  rintro Dn σ H ⟨p, M, ρ, o, R, L, e, po⟩
  unfold sSeq at e
  cases eg : g ρ M with
  | none => rw [eg] at e; exact nomatch e
  | some x =>
    refine ⟨p, M, ρ, x, R, L, eg, ?_⟩
    rw [eg] at e
    obtain ⟨fl, M1⟩ := x
    cases fl with
    | nx r1 => exact fun p1 H1 σ1 hp hl R1 L1 => ⟨p1, M1, r1, o, R1, L1, e, po.up hp hl⟩
    | bk r1 => cases e; exact po
    | ct r1 => cases e; exact po
    | rt d => cases e; exact po
    | xx c r1 => cases e; exact po
theorem dss_one (h1 : DS X z W st g) : DSs X z W [st] g := pss_one h1
theorem dss_seq {g h : SF} (h1 : DS X z W st g) (h2 : DSs X z W rest h) : DSs X z W (st :: rest) (sSeq g h) := dss_cons h1 h2
theorem ds_pass : DS X z W (.Pass pos) sNil := by
  refine ps_pass.imp ?_
  rintro Dn σ H ⟨p, M, ρ, o, R, L, e, po⟩
  cases e
  exact po.nx R L
theorem ds_break : DS X z W (.Break pos) sBreak := by
  refine ps_break.imp ?_
  rintro Dn σ H ⟨p, M, ρ, o, R, L, e, po⟩
  cases e
  exact po p H σ (List.prefix_refl p) (Le.refl H) R L
theorem ds_cont : DS X z W (.Continue pos) sCont := by
  refine ps_continue.imp ?_
  rintro Dn σ H ⟨p, M, ρ, o, R, L, e, po⟩
  cases e
  exact po p H σ (List.prefix_refl p) (Le.refl H) R L
theorem ds_set {x : Str} {pos' : Pos} (i : Nat) (hN : X.N.Nodup) (he : DE X z W e f) (hi : X.N[i]? = some x := by rfl) (hx : Loc X.env.scope x := by first | exact Or.inl rfl | exact Or.inr rfl) (hs : swapsWith e (some (.Name x pos')) pos.line X.env = pure false := by rfl)
    (hf : X.fn x = true ∨ X.env.scope.names.lookup x = some .local := by first | exact .inl rfl | exact .inr rfl | assumption) : DS X z W (.Assign [.Name x pos'] e pos) (sAsg i f) := by
  refine (ps_set hN hi hx he hs hf).imp ?_
  rintro Dn σ H ⟨p, M, ρ, o, R, L, e, po⟩
  refine gE_exB R L e po fun d M1 p1 H1 v R1 L1 hl1 hp1 q1 e1 po1 => ?_
  cases e1
  exact po1.nx R1 (L1.set i q1)
theorem ds_par {x y : Str} {px py pt : Pos} {kt k2 : Nat} {pt2 : Pos} (i j : Nat) (hc : X.calm = true) (hN : X.N.Nodup) (ha : DE X z W a fa) (hb : DE X z W b fb) (hi : X.N[i]? = some x := by rfl) (hj : X.N[j]? = some y := by rfl) (hij : i ≠ j := by decide)
    (hx : X.env.scope.names.lookup x = some .local := by rfl) (hy : X.env.scope.names.lookup y = some .local := by rfl)
    (hw : swappedStores [.Tuple [.Name x px, .Name y py] kt pt] (.Tuple [a, b] k2 pt2) X.env = pure (some [x, y]) := by rfl)
    (hs : swapsWithSole [.Tuple [.Name x px, .Name y py] kt pt] (.Tuple [a, b] k2 pt2) pos.line X.env = pure false := by rfl)
    (hsa : starEach [a, b] X.env = (false, eval a X.env) :: starEach [b] X.env := by rfl) (hsb : starEach [b] X.env = (false, eval b X.env) :: starEach [] X.env := by rfl) :
    DS X z W (.Assign [.Tuple [.Name x px, .Name y py] kt pt] (.Tuple [a, b] k2 pt2) pos) (sPar i j fa fb) := by
  refine (ps_par hc hN hi hj hij hx hy (pa_cons ha (pa_cons hb pa_nil hsb) hsa) hw hs).imp ?_
  rintro Dn σ H ⟨p, M, ρ, o, R, L, e, po⟩
  refine gE_exB R L e po fun d M1 p1 H1 v R1 L1 hl1 hp1 q1 e1 po1 => ?_
  refine gE_exB R1 L1 e1 po1 fun d2 M2 p2 H2 w R2 L2 hl2 hp2 q2 e2 po2 => ?_
  cases e2
  exact ⟨v, w, rfl, po2.nx R2 ((L2.set i (Rep.up hp2 hl2 _ q1)).set j q2)⟩
theorem ds_drop (he : DE X z W e f) (hs : swapsWith e none pos.line X.env = pure false := by rfl) : DS X z W (.Expr e pos) (sDrop f) := by
  refine (ps_expr he hs).imp ?_
  rintro Dn σ H ⟨p, M, ρ, o, R, L, e, po⟩
  refine gE_exB R L e po fun d M1 p1 H1 v R1 L1 hl1 hp1 q1 e1 po1 => ?_
  cases e1
  exact po1.nx R1 L1
theorem ds_ret (he : DE X z W e f) : DS X z W (.Return (some e) pos) (sRet f) := by
  refine (ps_ret he).imp ?_
  rintro Dn σ H ⟨p, M, ρ, o, R, L, e, po⟩
  refine gE_exB R L e po fun d M1 p1 H1 v R1 L1 hl1 hp1 q1 e1 po1 => ?_
  cases e1
  exact po1.rt R1 q1
theorem ds_retN : DS X z W (.Return none pos) sRetN := by
  refine ps_retN.imp ?_
  rintro Dn σ H ⟨p, M, ρ, o, R, L, e, po⟩
  cases e
  exact po.rt R rep_non
theorem ds_if (hc : DT X z W c t) (ha : DSs X z W sa g) (hb : DSs X z W sb h) : DS X z W (.If c sa sb pos) (sIf t g h) := by
  refine (ps_if hc ha hb).imp ?_
  rintro Dn σ H ⟨p, M, ρ, o, R, L, e, po⟩
  refine gE_exB R L e po fun d M1 p1 H1 v R1 L1 hl1 hp1 q1 e1 po1 => ?_
  cases q1
  cases d with
  | true => exact ⟨p1, M1, ρ, o, R1, L1, e1, po1⟩
  | false => exact ⟨p1, M1, ρ, o, R1, L1, e1, po1⟩
/-- x op= e -/
theorem ds_aug {x : Str} {op : Operator} {r : R2} {g : G2} {pos' : Pos} (i : Nat) (hN : X.N.Nodup) (ho : PIp X op r) (hg : OD (Cx.k X z) r g) (he : DE X z W e f) (hi : X.N[i]? = some x := by rfl) (hx : Loc X.env.scope x := by first | exact Or.inl rfl | exact Or.inr rfl)
    (hf : X.fn x = true ∨ X.env.scope.names.lookup x = some .local := by first | exact .inl rfl | exact .inr rfl | assumption) : DS X z W (.AugAssign (.Name x pos') op e pos) (sAug g i f) := by
  refine (ps_aug hN hi hx he ho hf).imp ?_
  rintro Dn σ H ⟨p, M, ρ, o, R, L, e, po⟩
  unfold sAug at e
  split at e
  · rename_i d hd
    obtain ⟨v, hv, q⟩ := L.at_ i d hd
    refine ⟨v, hv, ?_⟩
    refine gE_exB R L e po fun d1 M1 p1 H1 v1 R1 L1 hl1 hp1 q1 e1 po1 => ?_
    cases eg : g d d1 M1 with
    | none => rw [eg] at e1; cases e1
    | some o2 =>
      refine hg W σ R1 (Rep.up hp1 hl1 _ q) q1 eg ?_
      rw [eg] at e1
      cases o2 with
      | ok d2 M2 =>
        cases e1
        exact fun p2 H2 v2 hp2 hl2 R2 q2 => po1 p2 H2 _ hp2 hl2 R2 ((L1.up hp2 hl2).set i q2)
      | er c M2 =>
        cases e1
        exact fun p2 H2 C hp2 hl2 R2 q2 => po1 p2 H2 σ C hp2 hl2 R2 (L1.up hp2 hl2) q2
  · cases e
theorem ip_op {op : Operator} {r : R2} (h : OpR X (inplaceOp op) r) : PIp X op r := fun pins s σ H x y v u Q I r1 r2 q => h pins s σ H x y v u Q I r1 r2 q
theorem ds_while {hp : PassesOwn (model X.prog X.w) X.A X.env X.xe} (hc : DT X z W c t) (hb : DSs X z W sa g) : DS X z W (.While c sa [] pos) (sWhile t g) := by
  refine (ps_while hp hc hb).imp ?_
  rintro Dn σ H ⟨p, M, ρ, o, R, L, e, po⟩
  obtain ⟨n, e⟩ := of_sWhile e
  refine ⟨fun m σ' H' => ∃ p' M' r', Rl X.K X.mg p' M' H' ∧ Sl X.K z p' H' r' σ' ∧ wIter t g m r' M' = some o ∧ PoS (Cx.k X z) W p' H' o Dn, ⟨n, p, M, ρ, R, L, e, po⟩, ?_⟩
  rintro m σ' H' ⟨p', M', r', R', L', e', po'⟩
  cases m with
  | zero => exact nomatch e'
  | succ m =>
    unfold wIter at e'
    refine gE_exB R' L' e' po' fun d M1 p1 H1 v R1 L1 hl1 hp1 q1 e1 po1 => ?_
    cases q1
    cases d with
    | false =>
      cases e1
      exact po1.nx R1 L1
    | true =>
      rw [if_pos rfl]
      rw [if_pos rfl] at e1
      refine ⟨fun σ2 H2 => ∃ p' M' r', Rl X.K X.mg p' M' H2 ∧ Sl X.K z p' H2 r' σ2 ∧ wIter t g m r' M' = some o ∧ PoS (Cx.k X z) W p' H2 o Dn, fun σ2 H2 h2 => ⟨m, Nat.lt_succ_self m, h2⟩, ?_⟩
      cases eg : g r' M1 with
      | none => rw [eg] at e1; exact nomatch e1
      | some x =>
        refine ⟨p1, M1, r', x, R1, L1, eg, ?_⟩
        rw [eg] at e1
        obtain ⟨fl, M2⟩ := x
        cases fl with
        | nx r2 => exact fun p2 H2 σ2 hp2 hl2 R2 L2 => ⟨p2, M2, r2, R2, L2, e1, po1.up hp2 hl2⟩
        | ct r2 => exact fun p2 H2 σ2 hp2 hl2 R2 L2 => ⟨p2, M2, r2, R2, L2, e1, po1.up hp2 hl2⟩
        | bk r2 => cases e1; exact po1
        | rt d => cases e1; exact po1
        | xx c r2 => cases e1; exact po1
end
end DI

end

section
set_option Elab.async false
set_option linter.all false
set_option maxRecDepth 100000
set_option maxHeartbeats 4000000
/-! DI4: built-ins, targets, iterators, for, comprehensions, defs. -/
namespace DI
open PySem PySem.Spec PyProof.Rows L2

/-! ### isinstance -/
theorem kit_all (a b : Ty) : kitB a.nm b.nm = some (a.sub b) := by cases a <;> cases b <;> decide +kernel
theorem sqT_ty {K : PySem.W.Frag} {H : Hp} {a : Addr} {vs : List V} (h : SqT K H a vs) : TyX K H (.ref a) (.type "tuple") := by
  rcases h with (h | ⟨o, h⟩) | ⟨o, its, n, h, c, _⟩
  · exact .base (.tup h)
  · exact .fTuple h
  · exact .kTuple h c
theorem ty_of {k : Kx} {p : List Addr} {M : Hd} {H : Hp} {d : D} {v : V} {t : Ty} (R : Rl k.K k.mg p M H) (q : Rep k.K p H d v) (e : tyD d M = some t) : TyX k.K H v (.type t.nm) := by
  cases d with
  | non => cases e; unfold Rep at q; subst q; exact .base .non
  | bl b => cases e; unfold Rep at q; subst q; exact .base (.bl _)
  | int b => cases e; unfold Rep at q; subst q; exact .base (.int _)
  | str b => cases e; unfold Rep at q; subst q; exact .base (.str _)
  | tup ds =>
    cases e
    unfold Rep at q
    obtain ⟨a, vs, rfl, s, _⟩ := q
    exact sqT_ty s
  | fl ds =>
    cases e
    unfold Rep at q
    obtain ⟨a, vs, rfl, s, _⟩ := q
    rcases s with ⟨o, s⟩ | s
    · exact .base (.frz s)
    · rcases s (fun _ => none) with (h | ⟨o, h⟩) | ⟨o, its, n, h, c, _⟩
      · cases h
      · cases h
      · exact .kList h c
  | ref i =>
    unfold tyD at e
    dsimp only at e
    unfold Rep at q
    obtain ⟨a, ha, rfl⟩ := q
    split at e
    · rename_i ds ho
      cases e
      obtain ⟨b, hb, vs, e1, _⟩ := R.ob i _ ho
      rw [ha] at hb
      cases hb
      exact .base (.lst e1)
    · rename_i ds ho
      cases e
      obtain ⟨b, hb, vs, e1, _⟩ := R.ob i _ ho
      rw [ha] at hb
      cases hb
      exact .base (.dK e1)
    · rename_i ds ho
      cases e
      obtain ⟨b, hb, vs, e1, _⟩ := R.ob i _ ho
      rw [ha] at hb
      cases hb
      exact .base (.dT e1)
    · cases e
section
variable {X : Cx} {z : Zx} {W : WX} {a b c e : Expr} {fa fb fc f : EF} {t u : TF} {pos : Pos} {rest es : List Expr} {g : AF}
theorem de_isi {x : Str} {p' p2 : Pos} (T : Ty) (ha : DE X z W e f) (hm : X.mg "isinstance" = none) (hmT : X.mg x = none) (hb : bootBuiltins x = some (.type T.nm)) (hg : Gl X "isinstance" := by rfl) (hgT : Gl X x := by rfl) (hn : x ≠ "__name__" := by decide) (hdb : (x == ("__debug__" : Str)) = false := by decide)
    (he : starEach [e, .Name x p2] X.env = (false, eval e X.env) :: starEach [.Name x p2] X.env := by rfl) (hpl : (backTo pos (starEach [.Name x p2] X.env)).any (·.1) = false := by rfl) (he2 : starEach [.Name x p2] X.env = (false, eval (.Name x p2) X.env) :: starEach [] X.env := by rfl) :
    DE X z W (.Call (.Name "isinstance" p') [e, .Name x p2] [] pos) (eUn (isiG T) f) := by
  refine (pe_callB call_isi hg hm PyProof.Rows.boot_isinstance (pa_cons ha (pa_cons (pe_bltn (v := .ty T.nm) hgT hmT hb rfl hn hdb) pa_nil he2) he) (he := he) (hpl := hpl)).imp ?_
  rintro σ H Q ⟨p, M, ρ, o, R, L, e, po⟩
  refine gE_bnd R L e po fun d M1 p1 H1 v R1 L1 hl1 hp1 q1 e1 po1 => ?_
  unfold isiG at e1
  split at e1
  · rename_i t ht
    cases e1
    exact ⟨v, .ty T.nm, .type t.nm, .type T.nm, _, rfl, .ty _, ty_of R1 q1 ht, kit_ty (kit_all t T), po1.ok R1 rep_bl⟩
  · cases e1
/-! ### list, tuple, max, min -/
theorem de_list {p' : Pos} (ha : DE X z W e f) (hm : X.mg "list" = none) (hg : Gl X "list" := by rfl) (he : starEach [e] X.env = (false, eval e X.env) :: starEach [] X.env := by rfl) : DE X z W (.Call (.Name "list" p') [e] [] pos) (eUn listG f) := by
  refine (pe_callTy call_list_of hg hm PyProof.Rows.boot_list (pa_cons ha pa_nil he) (he := he)).imp ?_
  rintro σ H Q ⟨p, M, ρ, o, R, L, e, po⟩
  refine gE_bnd R L e po fun d M1 p1 H1 v R1 L1 hl1 hp1 q1 e1 po1 => ?_
  unfold listG at e1
  split at e1
  · rename_i ds hd
    cases e1
    obtain ⟨a, vs, rfl, s, r⟩ := rep_items R1 q1 hd
    exact ⟨a, vs, rfl, s, po_lst R1 po1 r⟩
  · cases e1
theorem de_tuple {p' : Pos} (ha : DE X z W e f) (hm : X.mg "tuple" = none) (hg : Gl X "tuple" := by rfl) (he : starEach [e] X.env = (false, eval e X.env) :: starEach [] X.env := by rfl) : DE X z W (.Call (.Name "tuple" p') [e] [] pos) (eUn tupleG f) := by
  refine (pe_callTy call_tuple_of hg hm PyProof.Rows.boot_tuple (pa_cons ha pa_nil he) (he := he)).imp ?_
  rintro σ H Q ⟨p, M, ρ, o, R, L, e, po⟩
  refine gE_bnd R L e po fun d M1 p1 H1 v R1 L1 hl1 hp1 q1 e1 po1 => ?_
  cases d with
  | tup ds =>
    cases e1
    unfold Rep at q1
    obtain ⟨a, vs, rfl, s, r⟩ := q1
    exact ⟨a, vs, rfl, .inr ⟨s, po1.ok R1 (rep_tup s r)⟩⟩
  | fl ds =>
    cases e1
    unfold Rep at q1
    obtain ⟨a, vs, rfl, s, r⟩ := q1
    refine ⟨a, vs, rfl, .inl ⟨?_, po_tup R1 po1 r⟩⟩
    rcases s with ⟨o, s⟩ | s
    · exact .inl (.inr ⟨o, s⟩)
    · exact s H1
  | ref i =>
    unfold tupleG at e1
    dsimp only at e1
    split at e1
    · rename_i ds ho
      cases e1
      obtain ⟨a, vs, rfl, _, s, r⟩ := rep_lst R1 q1 ho
      exact ⟨a, vs, rfl, .inl ⟨SqL.of s, po_tup R1 po1 r⟩⟩
    · cases e1
  | _ => cases e1
/-- a built-in that gives an int of some ints -/
theorem ga2 {k : Kx} {p : List Addr} {H : Hp} {i j : Int} {vs : List V} (q : Reps k.K p H [.int i, .int j] vs) : vs = [.int i, .int j] := by
  unfold Reps at q
  obtain ⟨v, ws, rfl, a, q⟩ := q
  unfold Reps at q
  obtain ⟨v2, ws, rfl, b, q⟩ := q
  unfold Reps at q
  unfold Rep at a b
  subst a b q
  rfl
theorem de_max2 {p' : Pos} (hc : X.calm = true) (ha : DA X z W (e :: es) g) (hm : X.mg "max" = none) (hg : Gl X "max" := by rfl) (he : starEach (e :: es) X.env = (false, eval e X.env) :: starEach es X.env := by rfl) (hpl : (backTo pos (starEach es X.env)).any (·.1) = false := by rfl) :
    DE X z W (.Call (.Name "max" p') (e :: es) [] pos) (eCB max2 g) := by
  refine (pe_callB (call_max2 hc) hg hm PyProof.Rows.boot_max ha (he := he) (hpl := hpl)).imp ?_
  rintro σ H Q ⟨p, M, ρ, o, R, L, e, po⟩
  refine gE_bnd R L e po fun d M1 p1 H1 v R1 L1 hl1 hp1 q1 e1 po1 => ?_
  unfold max2 at e1
  split at e1
  · cases e1
    exact ⟨_, _, ga2 (k := Cx.k X z) q1, po1.ok R1 rep_int⟩
  · cases e1
theorem de_min2 {p' : Pos} (hc : X.calm = true) (ha : DA X z W (e :: es) g) (hm : X.mg "min" = none) (hg : Gl X "min" := by rfl) (he : starEach (e :: es) X.env = (false, eval e X.env) :: starEach es X.env := by rfl) (hpl : (backTo pos (starEach es X.env)).any (·.1) = false := by rfl) :
    DE X z W (.Call (.Name "min" p') (e :: es) [] pos) (eCB min2 g) := by
  refine (pe_callB (call_min2 hc) hg hm PyProof.Rows.boot_min ha (he := he) (hpl := hpl)).imp ?_
  rintro σ H Q ⟨p, M, ρ, o, R, L, e, po⟩
  refine gE_bnd R L e po fun d M1 p1 H1 v R1 L1 hl1 hp1 q1 e1 po1 => ?_
  unfold min2 at e1
  split at e1
  · cases e1
    exact ⟨_, _, ga2 (k := Cx.k X z) q1, po1.ok R1 rep_int⟩
  · cases e1
/-! ### methods of lists -/
theorem rep_put {k : Kx} {p : List Addr} {M : Hd} {H : Hp} {σ : L2.St} {Q : VK} {i : Nat} {a : Addr} {ds : List D} {vs : List V} {d : D} {v : V} (R : Rl k.K k.mg p M H) (ha : p[i]? = some a) (r : Reps k.K p H ds vs) (q : Rep k.K p H d v) (po : PoE k W (rD k) p H σ (.ok d (M.set i (.lst ds))) Q) : Q v (upd H a (.lst vs)) := by
  obtain ⟨R2, hl⟩ := R.put (u := .lst vs) (o := .lst ds) ha fun hl => ⟨vs, upd_same, Reps.up (List.prefix_refl p) hl _ r⟩
  exact po p _ v (List.prefix_refl p) hl R2 (Rep.up (List.prefix_refl p) hl _ q)
theorem gE_lm {g : Nat → List D → List D → Hd → Option (Rs D)} {r : V → List V → Hp → VK → Prop} {k : Kx} {ga : AF} (h : ∀ {p M H a i ds vs as ws o Q} (σ : L2.St), Rl k.K k.mg p M H → p[i]? = some a → M[i]? = some (.lst ds) → H a = some (.lst vs) → Reps k.K p H ds vs → Reps k.K p H as ws → g i ds as M = some o → PoE k W (rD k) p H σ o Q → r (.ref a) ws H Q)
    {σ : L2.St} {H : Hp} {Q : VK} (q : gE k W (rD k) (eLm g f ga) σ H Q) : tBM k.K "list" r (gE k W (rD k) f) (gE k W (rA k) ga) σ H Q := by
  obtain ⟨p, M, ρ, o, R, L, e, po⟩ := q
  refine gE_bnd R L e po fun d M1 p1 H1 v R1 L1 hl1 hp1 q1 e1 po1 => ?_
  cases d with
  | ref i =>
    dsimp only at e1
    split at e1
    · rename_i ds0 ho
      obtain ⟨a, vs0, rfl, ha, s, r0⟩ := rep_lst R1 q1 ho
      refine ⟨.inl ⟨rfl, _, SqL.of s⟩, ?_⟩
      refine gE_bnd R1 L1 e1 po1 fun as M2 p2 H2 ws R2 L2 hl2 hp2 q2 e2 po2 => ?_
      split at e2
      · rename_i ds ho2
        obtain ⟨a2, vs, e3, ha2, s2, r2⟩ := rep_lst R2 (Rep.up hp2 hl2 _ q1) ho2
        cases e3
        exact h σ R2 ha2 ho2 s2 r2 q2 e2 po2
      · cases e2
    · cases e1
  | _ => cases e1
theorem reps1 {k : Kx} {p : List Addr} {H : Hp} {d : D} {ws : List V} (q : Reps k.K p H [d] ws) : ∃ v, ws = [v] ∧ Rep k.K p H d v := by
  unfold Reps at q
  obtain ⟨v, ws, rfl, a, q⟩ := q
  unfold Reps at q
  subst q
  exact ⟨v, rfl, a⟩
theorem de_append {ap : Pos} (ha : DE X z W a fa) (hb : DA X z W (e :: es) g) (hbm : attributeBase a "append" X.env (eval a X.env) = eval a X.env := by rfl) (he : starEach (e :: es) X.env = (false, eval e X.env) :: starEach es X.env := by rfl)
    (hfew : ((backTo pos (starEach (e :: es) X.env)).all (fun x => !x.1) && (backToKw pos (keywordEach [] X.env)).all (fun x => x.1.isSome) && decide ((e :: es).length + ([] : List Keyword).length + (if ([] : List Keyword).isEmpty then 0 else 1) < 30)) = true := by rfl)
    (hln : (ap.endLine == pos.line) = true := by rfl) (hpl : (backTo pos (starEach es X.env)).any (·.1) = false := by rfl) : DE X z W (.Call (.Attribute a "append" ap) (e :: es) [] pos) (eLm appendG fa g) := by
  refine (pe_bm PySem.F.plainAttrs_list PySem.F.slot_list_append PySem.F.type_list_append mt_append ha hb hbm hfew hln he hpl).imp fun σ H Q q => ?_
  refine gE_lm (k := Cx.k X z) (fun {p M H a i ds vs as ws o Q} σ R ha ho s r0 q1 e po => ?_) q
  unfold appendG at e
  split at e
  · split at e
    · rename_i hl
      cases e
      obtain ⟨v, rfl, q3⟩ := reps1 q1
      exact ⟨a, vs, v, rfl, rfl, s, by rw [← reps_len r0]; exact line_lt hl, rep_put R ha (reps_app r0 (reps_cons q3 reps_nil)) rep_non po⟩
    · cases e
  · cases e
theorem de_extend {ap : Pos} (ha : DE X z W a fa) (hb : DA X z W (e :: es) g) (hbm : attributeBase a "extend" X.env (eval a X.env) = eval a X.env := by rfl) (he : starEach (e :: es) X.env = (false, eval e X.env) :: starEach es X.env := by rfl)
    (hfew : ((backTo pos (starEach (e :: es) X.env)).all (fun x => !x.1) && (backToKw pos (keywordEach [] X.env)).all (fun x => x.1.isSome) && decide ((e :: es).length + ([] : List Keyword).length + (if ([] : List Keyword).isEmpty then 0 else 1) < 30)) = true := by rfl)
    (hln : (ap.endLine == pos.line) = true := by rfl) (hpl : (backTo pos (starEach es X.env)).any (·.1) = false := by rfl) : DE X z W (.Call (.Attribute a "extend" ap) (e :: es) [] pos) (eLm extendG fa g) := by
  refine (pe_bm PySem.F.plainAttrs_list PySem.F.slot_list_extend PySem.F.type_list_extend mt_extend ha hb hbm hfew hln he hpl).imp fun σ H Q q => ?_
  refine gE_lm (k := Cx.k X z) (fun {p M H a i ds vs as ws o Q} σ R ha ho s r0 q1 e po => ?_) q
  unfold extendG at e
  split at e
  · split at e
    · rename_i j es' hj
      split at e
      · rename_i hl
        cases e
        obtain ⟨v, rfl, q3⟩ := reps1 q1
        obtain ⟨b, us, rfl, _, s2, r2⟩ := rep_lst R q3 hj
        exact ⟨a, b, vs, us, rfl, rfl, s, s2, by rw [← reps_len r0, ← reps_len r2]; exact line_eq hl, rep_put R ha (reps_app r0 r2) rep_non po⟩
      · cases e
    · cases e
  · cases e
theorem reps_dropLast {k : Kx} {p : List Addr} {H : Hp} {ds : List D} {vs : List V} (h : Reps k.K p H ds vs) : Reps k.K p H ds.dropLast vs.dropLast := by
  rw [List.dropLast_eq_take, List.dropLast_eq_take, reps_len h]
  exact reps_take _ h
theorem de_pop {ap : Pos} (ha : DE X z W a fa) (hbm : attributeBase a "pop" X.env (eval a X.env) = eval a X.env := by rfl) (hln : (ap.endLine == pos.line) = true := by rfl) : DE X z W (.Call (.Attribute a "pop" ap) [] [] pos) (eLm popG fa aNil) := by
  refine (pe_bm0 PySem.F.plainAttrs_list PySem.F.slot_list_pop PySem.F.type_list_pop mt_pop ha hbm hln).imp fun σ H Q q => ?_
  obtain ⟨p, M, ρ, o, R, L, e, po⟩ := q
  refine gE_bnd R L e po fun d M1 p1 H1 v R1 L1 hl1 hp1 q1 e1 po1 => ?_
  cases d with
  | ref i =>
    dsimp only at e1
    split at e1
    · rename_i ds ho
      obtain ⟨a, vs, rfl, ha, s, r0⟩ := rep_lst R1 q1 ho
      refine ⟨.inl ⟨rfl, _, SqL.of s⟩, ?_⟩
      unfold aNil at e1
      simp only [bnd_ok, ho] at e1
      unfold popG at e1
      split at e1
      · rename_i y hy
        cases e1
        obtain ⟨u, h1, h2⟩ := reps_get r0 hy
        exact ⟨a, vs, u, rfl, rfl, s, by rw [← reps_len r0]; exact h1, rep_put R1 ha (reps_dropLast (k := Cx.k X z) r0) h2 po1⟩
      · cases e1
    · cases e1
  | _ => cases e1
/-! ### slices -/
def rO : List Addr → Hp → Option Int → Option Int → Prop := fun _ _ a b => b = a
def DO (X : Cx) (z : Zx) (W : WX) (e : Option Expr) (f : OF) : Prop := PO X e (gE (Cx.k X z) W rO f)
theorem do_none : DO X z W none oNone := by
  refine ⟨fun pins s σ H Q I h => po_none.run pins s σ H Q I ?_⟩
  obtain ⟨p, M, ρ, o, R, L, e, po⟩ := h
  cases e
  exact po.ok R rfl
theorem do_some (h : DE X z W e f) : DO X z W (some e) (oSome f) := by
  refine ⟨fun pins s σ H Q I h' => (po_some h).run pins s σ H Q I ?_⟩
  obtain ⟨p, M, ρ, o, R, L, e, po⟩ := h'
  refine gE_bnd R L e po fun d M1 p1 H1 v R1 L1 hl1 hp1 q1 e1 po1 => ?_
  cases d with
  | int i =>
    cases e1
    unfold Rep at q1
    exact ⟨i, q1, po1.ok R1 rfl⟩
  | _ => cases e1
theorem reps_cut {k : Kx} {p : List Addr} {H : Hp} {ds : List D} {vs : List V} (h : Reps k.K p H ds vs) (lo hi : Option Int) : Reps k.K p H (cutD ds lo hi) (cutV vs lo hi) := by
  unfold cutD cutV
  rw [← reps_len h]
  exact reps_take _ (reps_drop _ h)
theorem cut_all {α : Type} {ds : List α} {lo hi : Option Int} (h : HT.sIx ds.length 0 lo = 0 ∧ HT.sIx ds.length ds.length hi = ds.length) : cutD ds lo hi = ds := by
  unfold cutD
  rw [h.1, h.2]
  simp
theorem de_slice {lo hi : Option Expr} {fl fh : OF} {p2 : Pos} (he : DE X z W e f) (hl : DO X z W lo fl) (hh : DO X z W hi fh) : DE X z W (.Subscript e (.Slice lo hi none p2) pos) (eSl f fl fh) := by
  refine (pe_slice (sl_list.or sl_tupA) he hl hh).imp ?_
  rintro σ H Q ⟨p, M, ρ, o, R, L, e, po⟩
  refine gE_bnd R L e po fun d M1 p1 H1 v R1 L1 hl1 hp1 q1 e1 po1 => ?_
  refine gE_bnd R1 L1 e1 po1 fun l M2 p2 H2 l' R2 L2 hl2 hp2 q2 e2 po2 => ?_
  refine gE_bnd R2 L2 e2 po2 fun u M3 p3 H3 u' R3 L3 hl3 hp3 q3 e3 po3 => ?_
  cases q2
  cases q3
  have q4 := Rep.up (hp2.trans hp3) (hl2.trans hl3) _ q1
  cases d with
  | tup ds =>
    cases e3
    unfold Rep at q4
    obtain ⟨a, vs, rfl, s, r⟩ := q4
    refine .inr ⟨a, vs, rfl, s, fun hw => ?_, fun hw => po_tup R3 po3 (reps_cut (k := Cx.k X z) r l u)⟩
    rw [← reps_len r] at hw
    rw [cut_all hw] at po3
    exact po3.ok R3 (rep_tup s r)
  | fl ds =>
    cases e3
    unfold Rep at q4
    obtain ⟨a, vs, rfl, s, r⟩ := q4
    refine .inl ⟨a, vs, rfl, ?_, po_lst R3 po3 (reps_cut (k := Cx.k X z) r l u)⟩
    rcases s with ⟨o, s⟩ | s
    · exact .inl (.inr ⟨o, s⟩)
    · exact s H3
  | ref i =>
    unfold sliceD at e3
    dsimp only at e3
    split at e3
    · rename_i ds ho
      cases e3
      obtain ⟨a, vs, rfl, _, s, r⟩ := rep_lst R3 q4 ho
      exact .inl ⟨a, vs, rfl, SqL.of s, po_lst R3 po3 (reps_cut (k := Cx.k X z) r l u)⟩
    · cases e3
  | _ => cases e3
theorem reps_rev {k : Kx} {p : List Addr} {H : Hp} : ∀ {ds : List D} {vs : List V}, Reps k.K p H ds vs → Reps k.K p H ds.reverse vs.reverse
  | [], _, h => by unfold Reps at h; subst h; exact reps_nil
  | d :: ds, _, h => by
    unfold Reps at h
    obtain ⟨v, ws, rfl, r, q⟩ := h
    rw [List.reverse_cons, List.reverse_cons]
    exact reps_app (reps_rev q) (reps_cons r reps_nil)
theorem de_rev {kk : Nat} {p1 p2 p3 : Pos} (he : DE X z W e f) : DE X z W (.Subscript e (.Slice none none (some (.UnaryOp .USub (.Constant (.int 1) kk p1) p2)) p3) pos) (eUn revG f) := by
  refine (pe_revL he).imp ?_
  rintro σ H Q ⟨p, M, ρ, o, R, L, e, po⟩
  refine gE_bnd R L e po fun d M1 p1 H1 v R1 L1 hl1 hp1 q1 e1 po1 => ?_
  cases d with
  | fl ds =>
    cases e1
    unfold Rep at q1
    obtain ⟨a, vs, rfl, s, r⟩ := q1
    refine ⟨a, vs, rfl, ?_, po_lst R1 po1 (reps_rev (k := Cx.k X z) r)⟩
    rcases s with ⟨o, s⟩ | s
    · exact .inl (.inr ⟨o, s⟩)
    · exact s H1
  | ref i =>
    unfold revG at e1
    dsimp only at e1
    split at e1
    · rename_i ds ho
      cases e1
      obtain ⟨a, vs, rfl, _, s, r⟩ := rep_lst R1 q1 ho
      exact ⟨a, vs, rfl, SqL.of s, po_lst R1 po1 (reps_rev (k := Cx.k X z) r)⟩
    · cases e1
  | _ => cases e1
/-! ### o[i] = e -/
theorem rep_putS {k : Kx} {p : List Addr} {M : Hd} {H : Hp} {i : Nat} {a : Addr} {ds : List D} {vs : List V} {r : Ev} {σ : L2.St} {Dn : Ends} (R : Rl k.K k.mg p M H) (L : Sl k.K k.z p H r σ) (ha : p[i]? = some a) (rr : Reps k.K p H ds vs) (po : PoS k W p H (.nx r, M.set i (.lst ds)) Dn) : Dn.nx σ (upd H a (.lst vs)) := by
  obtain ⟨R2, hl⟩ := R.put (u := .lst vs) (o := .lst ds) ha fun hl => ⟨vs, upd_same, Reps.up (List.prefix_refl p) hl _ rr⟩
  exact po p _ σ (List.prefix_refl p) hl R2 (L.up (List.prefix_refl p) hl)
theorem ds_setI {o i : Expr} {fo fi : EF} {p2 : Pos} (he : DE X z W e f) (ho : DE X z W o fo) (hi : DE X z W i fi)
    (ha : ∀ v, assign (.Subscript o i p2) X.env v = (do
      let ov ← holding [v] (eval o X.env)
      let iv ← holding [v, ov] (eval i X.env)
      standAt p2
      holding [v, ov, iv] (setItem ov iv v)
      release [v, ov, iv] []) := by intro _; rfl)
    (hs : swapsWithSole [.Subscript o i p2] e pos.line X.env = pure false := by rfl) (hw : swappedStores [.Subscript o i p2] e X.env = pure none := by rfl)
    (h1 : (assignEach [.Subscript o i p2] X.env).map (·.2) = [assign (.Subscript o i p2) X.env] := by rfl) : DS X z W (.Assign [.Subscript o i p2] e pos) (sSetI f fo fi) := by
  refine (ps_asg he (pg_sub ho hi set_list ha) hs hw h1).imp ?_
  rintro Dn σ H ⟨p, M, ρ, oo, R, L, e, po⟩
  refine gE_exB R L e po fun d M1 p1 H1 v R1 L1 hl1 hp1 q1 e1 po1 => ?_
  refine gE_exB R1 L1 e1 po1 fun d2 M2 p2 H2 v2 R2 L2 hl2 hp2 q2 e2 po2 => ?_
  refine gE_exB R2 L2 e2 po2 fun d3 M3 p3 H3 v3 R3 L3 hl3 hp3 q3 e3 po3 => ?_
  cases d2 with
  | ref i =>
    cases d3 with
    | int j =>
      dsimp only at e3
      split at e3
      · rename_i ds ho
        split at e3
        · rename_i n hn
          cases e3
          obtain ⟨a, vs, rfl, ha, s, r⟩ := rep_lst R3 (Rep.up hp3 hl3 _ q2) ho
          unfold Rep at q3
          refine ⟨a, vs, j, n, rfl, q3, s, by rw [← reps_len r]; exact hn, ?_⟩
          exact rep_putS R3 L3 ha (reps_set (Rep.up (hp2.trans hp3) (hl2.trans hl3) _ q1) n r) po3
        · cases e3
      · cases e3
    | _ => cases e3
  | _ => cases e3
end
end DI

end

section
set_option Elab.async false
set_option linter.all false
set_option maxRecDepth 100000
set_option maxHeartbeats 4000000
/-! DI5: targets, iterators, for, comprehensions, defs. -/
namespace DI
open PySem PySem.Spec PyProof.Rows L2

/-! ### slots forgotten -/
theorem wipe_at (σ : L2.St) : ∀ (vs : List Nat) (j : Nat), (wipe σ vs)[j]? = if j ∈ vs ∧ j < σ.length then some none else σ[j]?
  | [], j => by simp [wipe]
  | v :: vs, j => by
    unfold wipe
    rw [List.getElem?_set, wipe_at σ vs j, wipe_length]
    by_cases h : v = j
    · subst h
      by_cases hl : v < σ.length <;> simp [hl]
    · have h' : ¬ j = v := fun e => h e.symm
      simp [h, h']
theorem wipe_set {σ : L2.St} {i : Nat} {a : Option V} {vs : List Nat} (h : i ∈ vs) : wipe (σ.set i a) vs = wipe σ vs := by
  apply List.ext_getElem?
  intro j
  rw [wipe_at, wipe_at, List.length_set, List.getElem?_set]
  by_cases hj : j ∈ vs ∧ j < σ.length
  · rw [if_pos hj, if_pos hj]
  · rw [if_neg hj, if_neg hj]
    by_cases e : i = j
    · subst e
      have : ¬ i < σ.length := fun q => hj ⟨h, q⟩
      simp [this]
    · simp [e]
theorem wipe_wipe (σ : L2.St) (vs : List Nat) : wipe (wipe σ vs) vs = wipe σ vs := by
  apply List.ext_getElem?
  intro j
  rw [wipe_at, wipe_at, wipe_length]
  by_cases hj : j ∈ vs ∧ j < σ.length <;> simp [hj]
theorem wip_at (r : Ev) : ∀ (vs : List Nat) (j : Nat), (wip r vs)[j]? = if j ∈ vs ∧ j < r.length then some none else r[j]?
  | [], j => by simp [wip]
  | v :: vs, j => by
    have hl : ∀ vs, (wip r vs).length = r.length := fun vs => by
      induction vs with
      | nil => rfl
      | cons v vs ih => unfold wip; rw [List.length_set, ih]
    unfold wip
    rw [List.getElem?_set, wip_at r vs j, hl]
    by_cases h : v = j
    · subst h
      by_cases hl : v < r.length <;> simp [hl]
    · have h' : ¬ j = v := fun e => h e.symm
      simp [h, h']
theorem wip_length (r : Ev) : ∀ vs, (wip r vs).length = r.length
  | [] => rfl
  | v :: vs => by unfold wip; rw [List.length_set, wip_length r vs]
theorem Sl.wip {K : PySem.W.Frag} {p : List Addr} {H : Hp} {r : Ev} {σ : L2.St} (s : Sl K none p H r σ) (vs : List Nat) : Sl K none p H (wip r vs) (wipe σ vs) := by
  refine ⟨by rw [wip_length, wipe_length]; exact s.len, fun i d e => ?_, fun a i e => nomatch e⟩
  rw [wip_at] at e
  split at e
  · cases e
  · rename_i h
    obtain ⟨v, hv, q⟩ := s.at_ i d e
    refine ⟨v, ?_, q⟩
    rw [wipe_at, if_neg (by rw [← s.len]; exact h)]
    exact hv

/-! ### targets -/
def gG (k : Kx) (t : Tg) : TG := fun v σ H Q => ∃ p M r d r1, Rl k.K k.mg p M H ∧ Sl k.K k.z p H r σ ∧ Rep k.K p H d v ∧ t.put d r = some r1 ∧
  ∀ σ', Sl k.K k.z p H r1 σ' → (∀ vs, (∀ i ∈ t.sl, i ∈ vs) → wipe σ' vs = wipe σ vs) → Q σ' H
def DG (X : Cx) (z : Zx) (e : Expr) (t : Tg) : Prop := PG X e (gG (Cx.k X z) t)
theorem _root_.L2.PG.imp {X : Cx} {e : Expr} {t u : TG} (h : PG X e t) (q : ∀ v σ H Q, u v σ H Q → t v σ H Q) : PG X e u := ⟨fun pins s σ H v u Q I r k => h.run pins s σ H v u Q I r (q _ _ _ _ k)⟩
section
variable {X : Cx} {z : Zx} {W : WX} {a b c e : Expr} {fa fb fc f : EF} {t u : TF} {pos : Pos} {st : Stmt} {rest sa sb : List Stmt} {g h : SF}
theorem dg_nm {x : Str} (i : Nat) (hN : X.N.Nodup) (hi : X.N[i]? = some x := by rfl) (hx : Loc X.env.scope x := by first | exact Or.inl rfl | exact Or.inr rfl) (hf : X.fn x = true ∨ X.env.scope.names.lookup x = some .local := by first | exact .inl rfl | exact .inr rfl | assumption) : DG X z (.Name x pos) (.nm i) := by
  refine (pg_name hN hi hx hf).imp ?_
  rintro v σ H Q ⟨p, M, r, d, r1, R, L, q, e, k⟩
  cases e
  exact k _ (L.set i q) fun vs hv => wipe_set (hv i (by simp [Tg.sl]))
/-- several names -/
def gGs (k : Kx) (l : List Nat) : TGs := fun ws σ H Q => ∃ p M r ds r1, Rl k.K k.mg p M H ∧ Sl k.K k.z p H r σ ∧ Reps k.K p H ds ws ∧ setAll l ds r = some r1 ∧
  ∀ σ', Sl k.K k.z p H r1 σ' → (∀ vs, (∀ i ∈ l, i ∈ vs) → wipe σ' vs = wipe σ vs) → Q σ' H
def DGs (X : Cx) (z : Zx) (es : List Expr) (l : List Nat) : Prop := PGs X es (gGs (Cx.k X z) l)
theorem dgs_nil : DGs X z [] [] := by
  refine ⟨fun pins s σ H vs us Q I r h => (pgs_nil (X := X)).run pins s σ H vs us Q I r ?_⟩
  obtain ⟨p, M, ρ, ds, r1, R, L, q, e, k⟩ := h
  cases ds with
  | nil =>
    cases e
    unfold Reps at q
    exact ⟨q, k _ L fun vs _ => rfl⟩
  | cons _ _ => cases e
theorem dgs_cons {x : Str} {es : List Expr} {l : List Nat} (i : Nat) (hN : X.N.Nodup) (hr : DGs X z es l) (hi : X.N[i]? = some x := by rfl) (hx : Loc X.env.scope x := by first | exact Or.inl rfl | exact Or.inr rfl) (hf : X.fn x = true ∨ X.env.scope.names.lookup x = some .local := by first | exact .inl rfl | exact .inr rfl | assumption)
    (hs : (assignEach (.Name x pos :: es) X.env).map (·.2) = assign (.Name x pos) X.env :: (assignEach es X.env).map (·.2) := by rfl) : DGs X z (.Name x pos :: es) (i :: l) := by
  refine ⟨fun pins s σ H vs us Q I r h => (pgs_cons (pg_name hN hi hx hf) hr hs).run pins s σ H vs us Q I r ?_⟩
  obtain ⟨p, M, ρ, ds, r1, R, L, q, e, k⟩ := h
  cases ds with
  | nil => cases e
  | cons d ds =>
    unfold Reps at q
    obtain ⟨v, ws, rfl, q1, q2⟩ := q
    refine ⟨v, ws, rfl, ?_⟩
    refine ⟨p, M, ρ.set i (some d), ds, r1, R, L.set i q1, q2, e, fun σ' L' w => k σ' L' fun vs hv => ?_⟩
    rw [w vs fun j hj => hv j (List.mem_cons_of_mem _ hj)]
    exact wipe_set (hv i List.mem_cons_self)
theorem dg_tp {es : List Expr} {kk : Nat} {l : List Nat} {n : Nat} (hc : X.calm = true) (h : DGs X z es l) (hl : l.length = n := by rfl) (hn : (assignEach es X.env).length = n := by rfl) (hst : (assignEach es X.env).findIdx? (·.1) = none := by rfl) : DG X z (.Tuple es kk pos) (.tp l) := by
  refine (pg_tup (n := n) hc h hn hst).imp ?_
  rintro v σ H Q ⟨p, M, r, d, r1, R, L, q, e, k⟩
  cases d with
  | tup ds =>
    unfold Rep at q
    obtain ⟨a, vs, rfl, s, rr⟩ := q
    have hlen : ∀ (l : List Nat) (ds : List D) (r r1 : Ev), setAll l ds r = some r1 → ds.length = l.length := by
      intro l
      induction l with
      | nil => intro ds r r1 e; cases ds with | nil => rfl | cons _ _ => cases e
      | cons i l ih => intro ds r r1 e; cases ds with | nil => cases e | cons d ds => rw [List.length_cons, List.length_cons, ih ds _ _ e]
    exact ⟨a, vs, rfl, s, by rw [← reps_len rr, hlen l ds r r1 e, hl], p, M, r, ds, r1, R, L, rr, e, k⟩
  | _ => cases e
theorem ds_asgT {es : List Expr} {kk : Nat} {p2 : Pos} {l : List Nat} (he : DE X z W e f) (hg : DG X z (.Tuple es kk p2) (.tp l)) (hs : swapsWithSole [.Tuple es kk p2] e pos.line X.env = pure false := by rfl) (hw : swappedStores [.Tuple es kk p2] e X.env = pure none := by rfl)
    (h1 : (assignEach [.Tuple es kk p2] X.env).map (·.2) = [assign (.Tuple es kk p2) X.env] := by rfl) : DS X z W (.Assign [.Tuple es kk p2] e pos) (sAsgT l f) := by
  refine (ps_asg he hg hs hw h1).imp ?_
  rintro Dn σ H ⟨p, M, ρ, o, R, L, e, po⟩
  refine gE_exB R L e po fun d M1 p1 H1 v R1 L1 hl1 hp1 q1 e1 po1 => ?_
  split at e1
  · rename_i r1 hr1
    cases e1
    exact ⟨p1, M1, ρ, d, r1, R1, L1, q1, hr1, fun σ' L' _ => po1.nx R1 L'⟩
  · cases e1
end

/-! ### iterators -/
def ItOk (k : Kx) (p0 : List Addr) (H0 : Hp) (x : List D × Gd) (J : It) : Prop := ∀ (n : Nat) (p : List Addr) (M : Hd) (H : Hp), p0 <+: p → Le H0 H → Rl k.K k.mg p M H → Still x.2 M →
  (∀ d, x.1[n]? = some d → J.go n H ∧ ∀ v H', J.yld n H v H' → Le H H' ∧ Rl k.K k.mg p M H' ∧ Rep k.K p H' d v) ∧ (n = x.1.length → J.stop n H)
def DI_ (X : Cx) (z : Zx) (W : WX) (tg e : Expr) (f : IF) : Prop := PI X tg e (gE (Cx.k X z) W (ItOk (Cx.k X z)) f)
theorem _root_.L2.PI.imp {X : Cx} {tg e : Expr} {t u : TI} (h : PI X tg e t) (q : ∀ σ H R, u σ H R → t σ H R) : PI X tg e u := ⟨fun pins s σ H R I k => h.run pins s σ H R I (q _ _ _ k)⟩
section
variable {X : Cx} {z : Zx} {W : WX} {a b c e tg : Expr} {fa fb fc f : EF} {t u : TF} {pos : Pos} {st : Stmt} {rest sa sb : List Stmt} {g h : SF}
/-- a list or a tuple -/
def iSq (K : PySem.W.Frag) (tl : TE) : TI := fun σ H R => tl σ H fun x H1 => ∃ a, x = .ref a ∧ (((∃ xs, SqL K H1 a xs) ∧ R (Itl K a) H1) ∨ ((∃ xs, SqT K H1 a xs) ∧ R (Itt K a) H1))
theorem pi_sq {l : Expr} {tl : TE} (hl : PE X l tl) : PI X tg l (iSq X.K tl) := by
  refine ⟨fun pins s σ H R I h => ?_⟩
  refine thn (hl.run pins s σ H _ I h) fun v s1 ⟨x, H1, I1, r1, q1⟩ => ?_
  obtain ⟨a, e, q⟩ := q1
  subst e
  cases r1
  rcases q with ⟨⟨xs, hq⟩, q⟩ | ⟨⟨xs, hq⟩, q⟩
  · obtain ⟨its, rv, p, hz⟩ := I1.list hq
    refine wpAny_pyIter_list p.isList ?_
    refine ⟨s1.heap.objs.size, [s1.heap.objs.size], _, _, H1, rfl, I1.kept (t' := s1.toks) fun b o e => Heap.get?_push_of_some _ e, turn_list a _, ⟨_, Heap.get?_push_size _ rfl, rfl, rfl⟩, fun b hb => ?_, q⟩
    have e : b = s1.heap.objs.size := by simpa using hb
    subst e
    exact I1.fpOk (Nat.le_refl _) (I1.hok.fresh (Nat.le_refl _))
  · obtain ⟨its, rv, p, hz⟩ := I1.tuple hq
    refine wpAny_pyIter_tuple (show s1.heap.IsTuple a its.toArray from p) ?_
    refine ⟨s1.heap.objs.size, [s1.heap.objs.size], _, _, H1, rfl, I1.kept (t' := s1.toks) fun b o e => Heap.get?_push_of_some _ e, turn_tuple a _, ⟨_, Heap.get?_push_size _ rfl, rfl, rfl⟩, fun b hb => ?_, q⟩
    have e : b = s1.heap.objs.size := by simpa using hb
    subst e
    exact I1.fpOk (Nat.le_refl _) (I1.hok.fresh (Nat.le_refl _))
theorem itl_ok {k : Kx} {p : List Addr} {H : Hp} {a : Addr} {ds : List D} {gs : Gd} (h : ∀ p' M' H', p <+: p' → Le H H' → Rl k.K k.mg p' M' H' → Still gs M' → ∃ vs, Reps k.K p' H' ds vs ∧ SqL k.K H' a vs) : ItOk k p H (ds, gs) (Itl k.K a) := by
  intro n p' M' H' hp hl R S
  obtain ⟨vs, r, s⟩ := h p' M' H' hp hl R S
  refine ⟨fun d e => ?_, fun e => ⟨vs, s, by rw [e, ← reps_len r]; exact Nat.le_refl _⟩⟩
  obtain ⟨v, h1, h2⟩ := reps_get r e
  refine ⟨⟨vs, v, s, h1⟩, fun w H2 y => ?_⟩
  obtain ⟨rfl, y⟩ := y
  have e3 := y vs s
  rw [h1] at e3
  cases e3
  exact ⟨Le.refl _, R, h2⟩
theorem itt_ok {k : Kx} {p : List Addr} {H : Hp} {a : Addr} {ds : List D} {vs : List V} (r0 : Reps k.K p H ds vs) (s0 : SqT k.K H a vs) : ItOk k p H (ds, []) (Itt k.K a) := by
  intro n p' M' H' hp hl R S
  have r := Reps.up hp hl _ r0
  have s := hl.sqT s0
  refine ⟨fun d e => ?_, fun e => ⟨vs, s, by rw [e, ← reps_len r]; exact Nat.le_refl _⟩⟩
  obtain ⟨v, h1, h2⟩ := reps_get r e
  refine ⟨⟨vs, v, s, h1⟩, fun w H2 y => ?_⟩
  obtain ⟨rfl, y⟩ := y
  have e3 := y vs s
  rw [h1] at e3
  cases e3
  exact ⟨Le.refl _, R, h2⟩
/-- what stands behind a list that stands still, a frozen list, a tuple -/
theorem seq_of {k : Kx} {p : List Addr} {M : Hd} {H : Hp} {d : D} {v : V} (R : Rl k.K k.mg p M H) (q : Rep k.K p H d v) : (∀ ds, d = .tup ds → ∃ a vs, v = .ref a ∧ SqT k.K H a vs ∧ Reps k.K p H ds vs) ∧
    (∀ ds, d = .fl ds → ∃ a, v = .ref a ∧ ∀ p' M' H', p <+: p' → Le H H' → Rl k.K k.mg p' M' H' → ∃ vs, Reps k.K p' H' ds vs ∧ SqL k.K H' a vs) ∧
    (∀ i, d = .ref i → ∃ a, v = .ref a ∧ ∀ ds p' M' H', p <+: p' → Le H H' → Rl k.K k.mg p' M' H' → M'[i]? = some (.lst ds) → ∃ vs, Reps k.K p' H' ds vs ∧ SqL k.K H' a vs) := by
  refine ⟨fun ds e => ?_, fun ds e => ?_, fun i e => ?_⟩
  · subst e
    unfold Rep at q
    exact q
  · subst e
    have q0 := q
    unfold Rep at q
    obtain ⟨a, vs, rfl, s, r⟩ := q
    refine ⟨a, rfl, fun p' M' H' hp hl R' => ?_⟩
    have q' := Rep.up hp hl _ q0
    obtain ⟨a2, vs2, e2, s2, r2⟩ := rep_items (ds := ds) R' q' rfl
    unfold Rep at q'
    obtain ⟨a3, vs3, e3, s3, r3⟩ := q'
    cases e3
    refine ⟨vs3, r3, ?_⟩
    rcases s3 with ⟨o, s3⟩ | s3
    · exact .inl (.inr ⟨o, s3⟩)
    · exact s3 H'
  · subst e
    have q0 := q
    unfold Rep at q
    obtain ⟨a, ha, rfl⟩ := q
    refine ⟨a, rfl, fun ds p' M' H' hp hl R' hm => ?_⟩
    obtain ⟨b, vs, e2, _, s, r⟩ := rep_lst R' (Rep.up hp hl _ q0) hm
    cases e2
    exact ⟨vs, r, SqL.of s⟩
theorem di_seq (he : DE X z W e f) : DI_ X z W tg e (seqI f) := by
  refine (pi_sq he).imp ?_
  rintro σ H Q ⟨p, M, ρ, o, R, L, e, po⟩
  refine gE_bnd R L e po fun d M1 p1 H1 v R1 L1 hl1 hp1 q1 e1 po1 => ?_
  obtain ⟨s1, s2, s3⟩ := seq_of R1 q1
  cases d with
  | tup ds =>
    cases e1
    obtain ⟨a, vs, rfl, s, r⟩ := s1 _ rfl
    exact ⟨a, rfl, .inr ⟨⟨vs, s⟩, po1.ok R1 (itt_ok r s)⟩⟩
  | fl ds =>
    cases e1
    obtain ⟨a, rfl, s⟩ := s2 _ rfl
    obtain ⟨vs, _, s'⟩ := s p1 M1 H1 (List.prefix_refl _) (Le.refl _) R1
    exact ⟨a, rfl, .inl ⟨⟨vs, s'⟩, po1.ok R1 (itl_ok fun p' M' H' hp hl R' _ => s p' M' H' hp hl R')⟩⟩
  | ref i =>
    dsimp only at e1
    split at e1
    · rename_i ds ho
      cases e1
      obtain ⟨a, rfl, s⟩ := s3 _ rfl
      obtain ⟨vs, _, s'⟩ := s ds p1 M1 H1 (List.prefix_refl _) (Le.refl _) R1 ho
      exact ⟨a, rfl, .inl ⟨⟨vs, s'⟩, po1.ok R1 (itl_ok fun p' M' H' hp hl R' S => s ds p' M' H' hp hl R' (S (i, ds) List.mem_cons_self))⟩⟩
    · cases e1
  | _ => cases e1
theorem ints_at (lo : Int) (n i : Nat) : (intsD lo n)[i]? = if i < n then some (.int (lo + (i : Int))) else none := by
  unfold intsD
  rw [List.getElem?_map]
  by_cases h : i < n
  · rw [List.getElem?_range h, if_pos h]; rfl
  · rw [List.getElem?_eq_none (by simpa using h), if_neg h]; rfl
theorem ints_len (lo : Int) (n : Nat) : (intsD lo n).length = n := by unfold intsD; simp
theorem itr_ok {k : Kx} {p : List Addr} {H : Hp} {lo : Int} {n : Nat} : ItOk k p H (intsD lo n, []) (Itr lo n) := by
  intro i p' M' H' hp hl R S
  refine ⟨fun d e => ?_, fun e => by rw [e, ints_len]; exact Nat.le_refl _⟩
  rw [ints_at] at e
  split at e
  · rename_i hi
    cases e
    refine ⟨hi, fun v H2 y => ?_⟩
    obtain ⟨rfl, rfl⟩ := y
    exact ⟨Le.refl _, R, rep_int⟩
  · cases e
theorem di_rng1 {p' : Pos} (he : DE X z W e f) (hm : X.mg "range" = none) (hg : Gl X "range" := by rfl) (hs : starEach [e] X.env = [(false, eval e X.env)] := by rfl) : DI_ X z W tg (.Call (.Name "range" p') [e] [] pos) (rng1 f) := by
  refine (pi_range1 hg hm (pa_cons he pa_nil hs) hs).imp ?_
  rintro σ H Q ⟨p, M, ρ, o, R, L, e, po⟩
  refine gE_bnd R L e po fun d M1 p1 H1 v R1 L1 hl1 hp1 q1 e1 po1 => ?_
  cases d with
  | int n =>
    dsimp only at e1
    split at e1
    · rename_i hn
      cases e1
      unfold Rep at q1
      subst q1
      exact ⟨n, rfl, hn.1, hn.2, po1.ok R1 itr_ok⟩
    · cases e1
  | _ => cases e1
theorem di_rng2 {p' : Pos} (ha : DE X z W a fa) (hb : DE X z W b fb) (hm : X.mg "range" = none) (hg : Gl X "range" := by rfl) (hs : starEach [a, b] X.env = [(false, eval a X.env), (false, eval b X.env)] := by rfl) (hs2 : starEach [b] X.env = [(false, eval b X.env)] := by rfl) : DI_ X z W tg (.Call (.Name "range" p') [a, b] [] pos) (rng2 fa fb) := by
  refine (pi_range2 hg hm (pa_cons ha (pa_cons hb pa_nil hs2) (by rw [hs, hs2])) hs hs2).imp ?_
  rintro σ H Q ⟨p, M, ρ, o, R, L, e, po⟩
  refine gE_bnd R L e po fun d M1 p1 H1 v R1 L1 hl1 hp1 q1 e1 po1 => ?_
  refine gE_bnd R1 L1 e1 po1 fun d2 M2 p2 H2 v2 R2 L2 hl2 hp2 q2 e2 po2 => ?_
  cases d with
  | int i =>
    cases d2 with
    | int n =>
      dsimp only at e2
      split at e2
      · rename_i hn
        cases e2
        unfold Rep at q1 q2
        subst q1 q2
        exact ⟨i, n, rfl, ⟨hn.1.1, hn.1.2, hn.2.1, hn.2.2⟩, po2.ok R2 itr_ok⟩
      · cases e2
    | _ => cases e2
  | _ => cases e2

/-! ### for -/
theorem ds_for {it : IF} {tt : Tg} (hp : PassesOwn (model X.prog X.w) X.A X.env X.xe) (hc : X.calm = true) (hi : DI_ X z W tg e it) (hg : DG X z tg tt) (hb : DSs X z W sa g) (hs : ∀ x, foldedSetIterable e X.env x = pure x := by intro _; rfl) :
    DS X z W (.For tg e sa [] pos) (sFor it tt g) := by
  refine (ps_for hp hc hi hg hb hs).imp ?_
  rintro Dn σ H ⟨p, M, ρ, o, R, L, e, po⟩
  refine gE_exB R L e po fun x M1 p1 H1 J R1 L1 hl1 hp1 q1 e1 po1 => ?_
  obtain ⟨ds, gs⟩ := x
  refine ⟨fun i m σ' H' => m = ds.length - i ∧ i ≤ ds.length ∧ ∃ p' M' r', p1 <+: p' ∧ Le H1 H' ∧ Rl X.K X.mg p' M' H' ∧ Sl X.K z p' H' r' σ' ∧ forL gs tt g (ds.drop i) r' M' = some o ∧ PoS (Cx.k X z) W p' H' o Dn,
    ⟨ds.length, by simp, Nat.zero_le _, p1, M1, ρ, List.prefix_refl _, Le.refl _, R1, L1, e1, po1⟩, ?_⟩
  rintro i m σ' H' ⟨rfl, hi, p', M', r', hp', hl', R', L', e', po'⟩
  by_cases hlt : i < ds.length
  · obtain ⟨d, hd⟩ : ∃ d, ds[i]? = some d := ⟨ds[i], List.getElem?_eq_getElem hlt⟩
    have hdr : ds.drop i = d :: ds.drop (i + 1) := by
      rw [List.drop_eq_getElem_cons hlt]
      congr 1
      rw [List.getElem?_eq_getElem hlt] at hd
      exact Option.some.inj hd
    rw [hdr] at e'
    unfold forL at e'
    split at e'
    · rename_i hS
      obtain ⟨k1, k2⟩ := q1 i p' M' H' hp' hl' R' hS
      obtain ⟨go, yy⟩ := k1 d hd
      refine .inr ⟨go, fun σ2 H2 => ∃ p' M' r', p1 <+: p' ∧ Le H1 H2 ∧ Rl X.K X.mg p' M' H2 ∧ Sl X.K z p' H2 r' σ2 ∧ forL gs tt g (ds.drop (i + 1)) r' M' = some o ∧ PoS (Cx.k X z) W p' H2 o Dn,
        fun σ2 H2 h2 => ⟨ds.length - (i + 1), by omega, rfl, hlt, h2⟩, fun v H2 y => ?_⟩
      obtain ⟨hl2, R2, q2⟩ := yy v H2 y
      split at e'
      · cases e'
      · rename_i r1 hr1
        refine ⟨p', M', r', d, r1, R2, L'.up (List.prefix_refl _) hl2, q2, hr1, fun σ3 L3 _ => ?_⟩
        have po2 := po'.up (List.prefix_refl _) hl2
        cases eg : g r1 M' with
        | none => rw [eg] at e'; exact nomatch e'
        | some x =>
          refine ⟨p', M', r1, x, R2, L3, eg, ?_⟩
          rw [eg] at e'
          obtain ⟨fl, M2⟩ := x
          cases fl with
          | nx r2 => exact fun p3 H3 σ3 hp3 hl3 R3 L3 => ⟨p3, M2, r2, hp'.trans hp3, (hl'.trans hl2).trans hl3, R3, L3, e', po2.up hp3 hl3⟩
          | ct r2 => exact fun p3 H3 σ3 hp3 hl3 R3 L3 => ⟨p3, M2, r2, hp'.trans hp3, (hl'.trans hl2).trans hl3, R3, L3, e', po2.up hp3 hl3⟩
          | bk r2 => cases e'; exact po2
          | rt d => cases e'; exact po2
          | xx c r2 => cases e'; exact po2
    · cases e'
  · have hi' : i = ds.length := by omega
    subst hi'
    rw [List.drop_length] at e'
    unfold forL at e'
    split at e'
    · rename_i hS
      cases e'
      exact .inl ⟨(q1 _ p' M' H' hp' hl' R' hS).2 rfl, po'.nx R' L'⟩
    · cases e'
end

/-! ### comprehensions -/
def DTs (X : Cx) (z : Zx) (W : WX) (es : List Expr) (f : TF) : Prop := PTs X es (gE (Cx.k X z) W rB f)
section
variable {X : Cx} {z : Zx} {W : WX} {e tg elt iter : Expr} {f : EF} {t : TF} {pos : Pos} {ifs : List Expr}
theorem _root_.L2.PTs.imp {X : Cx} {e : List Expr} {t u : TT} (h : PTs X e t) (q : ∀ σ H Q, u σ H Q → t σ H Q) : PTs X e u := ⟨fun pins s σ H Q I k => h.run pins s σ H Q I (q σ H Q k)⟩
theorem dts_nil : DTs X z W [] DI.tYes := by
  refine pts_nil.imp ?_
  rintro σ H Q ⟨p, M, ρ, o, R, L, e, po⟩
  cases e
  exact po.ok R rfl
theorem dts_one (h : DT X z W e t) : DTs X z W [e] t := pts_one h
abbrev W0 : WX := fun _ _ _ _ => False
theorem no_er {K : PySem.W.Frag} {mg : Str → Option Value} {z : Zx} {α β : Type} {Re : List Addr → Hp → α → β → Prop} {p : List Addr} {H : Hp} {σ : L2.St} {d : α} {M : Hd} {Q : β → Hp → Prop} (h : ∀ p' H' v, p <+: p' → Le H H' → Rl K mg p' M H' → Re p' H' d v → Q v H') : PoE ⟨K, mg, z⟩ W0 Re p H σ (.ok d M) Q := h
theorem lc_of {k : Kx} (hz : k.z = none) {it : IF} {tt : Tg} {own : List Nat} (hown : ∀ i ∈ tt.sl, i ∈ own) {σ : L2.St} {H : Hp} {Q : VK} (q : gE k W (rD k) (eLc it tt t f own) σ H Q) :
    tLc (gE k W (ItOk k) it) (gG k tt) (gE k W0 rB t) (gE k W0 (rD k) f) own σ H Q := by
  obtain ⟨p, M, ρ, o, R, L, e, po⟩ := q
  refine gE_bnd R L e po fun x M1 p1 H1 J R1 L1 hl1 hp1 q1 e1 po1 => ?_
  obtain ⟨ds, gs⟩ := x
  intro Dl hD
  split at e1
  · rename_i M2 hM2
    cases e1
    obtain ⟨kK, kmg, kz⟩ := k
    cases hz
    have R2 : Rl kK kmg (p1 ++ [Dl]) (M1 ++ [.lst []]) (upd H1 Dl (.lst [])) := R1.new hD ⟨[], upd_same, reps_nil⟩
    have hD1 : (p1 ++ [Dl])[M1.length]? = some Dl := by rw [List.getElem?_append_right (by rw [R1.len]; omega), R1.len]; simp
    refine ⟨fun i m H' => m = ds.length - i ∧ i ≤ ds.length ∧ ∃ p' M', (p1 ++ [Dl]) <+: p' ∧ Le (upd H1 Dl (.lst [])) H' ∧ Rl kK kmg p' M' H' ∧ lcL gs M1.length tt t f (DI.wip ρ own) (ds.drop i) M' = some M2,
      ⟨ds.length, by simp, Nat.zero_le _, _, _, List.prefix_refl _, Le.refl _, R2, hM2⟩, ?_⟩
    rintro i m H' ⟨rfl, hi, p', M', hp', hl', R', e'⟩
    have hle : Le H1 H' := (Le.new hD).trans hl'
    have hpr : p1 <+: p' := (List.prefix_append p1 [Dl]).trans hp'
    have L' : Sl kK none p' H' (DI.wip ρ own) (wipe σ own) := Sl.wip (L1.up hpr hle) own
    have hat : p'[M1.length]? = some Dl := by
      obtain ⟨t, rfl⟩ := hp'
      rw [List.getElem?_append_left (List.getElem?_eq_some_iff.mp hD1).1]
      exact hD1
    by_cases hlt : i < ds.length
    · obtain ⟨d, hd⟩ : ∃ d, ds[i]? = some d := ⟨ds[i], List.getElem?_eq_getElem hlt⟩
      have hdr : ds.drop i = d :: ds.drop (i + 1) := by
        rw [List.drop_eq_getElem_cons hlt]
        congr 1
        rw [List.getElem?_eq_getElem hlt] at hd
        exact Option.some.inj hd
      rw [hdr] at e'
      unfold lcL at e'
      split at e'
      · rename_i hS
        obtain ⟨k1, k2⟩ := q1 i p' M' H' hpr hle R' hS
        obtain ⟨go, yy⟩ := k1 d hd
        refine .inr ⟨go, fun H2 => ∃ p' M', (p1 ++ [Dl]) <+: p' ∧ Le (upd H1 Dl (.lst [])) H2 ∧ Rl kK kmg p' M' H2 ∧ lcL gs M1.length tt t f (DI.wip ρ own) (ds.drop (i + 1)) M' = some M2,
          fun H2 h2 => ⟨ds.length - (i + 1), by omega, rfl, hlt, h2⟩, fun v H2 y => ?_⟩
        obtain ⟨hl2, R2, q2⟩ := yy v H2 y
        split at e'
        · cases e'
        · rename_i r1 hr1
          refine ⟨p', M', DI.wip ρ own, d, r1, R2, L'.up (List.prefix_refl _) hl2, q2, hr1, fun σ3 L3 hw => ?_⟩
          refine ⟨by rw [hw own hown, wipe_wipe], ?_⟩
          cases et : t r1 M' with
          | none => rw [et] at e'; exact nomatch e'
          | some x =>
            rw [et] at e'
            cases x with
            | er c M3 => exact nomatch e'
            | ok bb M3 =>
              refine ⟨p', M', r1, _, R2, L3, et, fun p3 H3 v3 hp3 hl3 R3 e3 => ?_⟩
              cases e3
              cases bb with
              | false => exact ⟨p3, M3, hp'.trans hp3, (hl'.trans hl2).trans hl3, R3, e'⟩
              | true =>
                rw [if_pos rfl]
                dsimp only at e'
                cases ef : f r1 M3 with
                | none => rw [ef] at e'; exact nomatch e'
                | some x4 =>
                  rw [ef] at e'
                  cases x4 with
                  | er c M4 => exact nomatch e'
                  | ok d4 M4 =>
                    refine ⟨p3, M3, r1, _, R3, L3.up hp3 hl3, ef, fun p4 H4 v4 hp4 hl4 R4 q4 => ?_⟩
                    dsimp only at e'
                    split at e'
                    · rename_i acc hacc
                      split at e'
                      · rename_i hlen
                        have hat4 : p4[M1.length]? = some Dl := by
                          obtain ⟨t, rfl⟩ := hp3.trans hp4
                          rw [List.getElem?_append_left (List.getElem?_eq_some_iff.mp hat).1]
                          exact hat
                        obtain ⟨b, hb, vs, s, r⟩ := R4.ob _ _ hacc
                        rw [hat4] at hb
                        cases hb
                        obtain ⟨R5, hl5⟩ := R4.put (u := .lst (vs ++ [v4])) (o := .lst (acc ++ [d4])) hat4 fun hl => ⟨_, upd_same, Reps.up (List.prefix_refl _) hl _ (reps_app r (reps_cons q4 reps_nil))⟩
                        exact ⟨vs, s, by rw [← reps_len r]; exact line_lt hlen, p4, _, hp'.trans (hp3.trans hp4), (((hl'.trans hl2).trans hl3).trans hl4).trans hl5, R5, e'⟩
                      · cases e'
                    · cases e'
      · cases e'
    · have hi' : i = ds.length := by omega
      subst hi'
      rw [List.drop_length] at e'
      unfold lcL at e'
      split at e'
      · rename_i hS
        have stop := (q1 _ p' M' H' hpr hle R' hS).2 rfl
        cases e'
        refine .inl ⟨stop, ?_⟩
        exact po1 p' H' _ hpr hle R' (rep_ref hat)
      · cases e'
  · cases e1
theorem de_lc {scope : Scope} {own : List (Str × Nat)} {it : IF} {tt : Tg} (hc : X.calm = true) (hN : X.N.Nodup) (hi : DI_ X none W tg iter it) (ok : BlkOk X.N X.env.scope scope own) (hown : ∀ i ∈ tt.sl, i ∈ own.map (·.2))
    (hg : ∀ (s : Shared) (H : Hp) (C : Addr) (cl : List (Str × Addr)) (fp : List Addr), DG (X.blk s H scope (compEnvC scope cl C X.env) fp) none tg tt)
    (ht : ∀ (s : Shared) (H : Hp) (C : Addr) (cl : List (Str × Addr)) (fp : List Addr), DTs (X.blk s H scope (compEnvC scope cl C X.env) fp) none W0 ifs t)
    (he : ∀ (s : Shared) (H : Hp) (C : Addr) (cl : List (Str × Addr)) (fp : List Addr), DE (X.blk s H scope (compEnvC scope cl C X.env) fp) none W0 elt f) (hs : ∀ x, foldedSetIterable iter X.env x = pure x := by intro _; rfl) :
    DE X none W (.ListComp elt [⟨tg, iter, ifs, 0⟩] scope pos) (eLc it tt t f (own.map (·.2))) :=
  (pe_lc (g := gG (Cx.k X none) tt) (tt := gE (Cx.k X none) W0 rB t) (te := gE (Cx.k X none) W0 (rD (Cx.k X none)) f) hc hN hi ok hg ht he hs).imp fun _ _ _ q => lc_of rfl hown q
/-- y = [..] on one line, y a local -/
theorem ds_setLc {i : Nat} {y : Str} {py spos : Pos} {scope : Scope} {own : List (Str × Nat)} {it : IF} {tt : Tg} (hc : X.calm = true) (hN : X.N.Nodup) (hy : X.N[i]? = some y) (hyl : X.env.scope.names.lookup y = some .local)
    (hsw : swapsWith (.ListComp elt [⟨tg, iter, ifs, 0⟩] scope pos) (some (.Name y py)) spos.line X.env = pure true) (hi : DI_ X none W tg iter it) (ok : BlkOk X.N X.env.scope scope own) (hown : ∀ i ∈ tt.sl, i ∈ own.map (·.2))
    (hg : ∀ (s : Shared) (H : Hp) (C : Addr) (cl : List (Str × Addr)) (fp : List Addr), DG (X.blk s H scope (compEnvC scope cl C X.env) fp) none tg tt)
    (ht : ∀ (s : Shared) (H : Hp) (C : Addr) (cl : List (Str × Addr)) (fp : List Addr), DTs (X.blk s H scope (compEnvC scope cl C X.env) fp) none W0 ifs t)
    (he : ∀ (s : Shared) (H : Hp) (C : Addr) (cl : List (Str × Addr)) (fp : List Addr), DE (X.blk s H scope (compEnvC scope cl C X.env) fp) none W0 elt f) (hs : ∀ x, foldedSetIterable iter X.env x = pure x := by intro _; rfl) :
    DS X none W (.Assign [.Name y py] (.ListComp elt [⟨tg, iter, ifs, 0⟩] scope pos) spos) (sAsg i (eLc it tt t f (own.map (·.2)))) := by
  refine (ps_setLc (g := gG (Cx.k X none) tt) (tt := gE (Cx.k X none) W0 rB t) (te := gE (Cx.k X none) W0 (rD (Cx.k X none)) f) hc hN hy hyl hsw hi ok hg ht he hs).imp ?_
  rintro Dn σ H ⟨p, M, ρ, o, R, L, e, po⟩
  refine lc_of (k := Cx.k X none) rfl hown ?_
  refine gE_exB R L e po fun d M1 p1 H1 v R1 L1 hl1 hp1 q1 e1 po1 => ?_
  cases e1
  exact po1.nx R1 (L1.set i q1)
end

/-! ### a def -/
theorem sl_start {K : PySem.W.Frag} {p : List Addr} {H : Hp} {N : List Str} {ds : List D} {vs : List V} (h : Reps K p H ds vs) : Sl K none p H (startD N.length ds) (L2.start N vs) := by
  have hl := reps_len h
  refine ⟨?_, fun i d e => ?_, fun a i e => nomatch e⟩
  · unfold startD L2.start
    rw [List.length_append, List.length_append, List.length_map, List.length_map, List.length_replicate, List.length_replicate, hl]
  · unfold startD at e
    by_cases hi : i < ds.length
    · rw [List.getElem?_append_left (by simpa using hi), List.getElem?_map] at e
      cases q : ds[i]? with
      | none => rw [q] at e; cases e
      | some x =>
        rw [q] at e
        cases e
        obtain ⟨v, h1, h2⟩ := reps_get h q
        refine ⟨v, ?_, h2⟩
        unfold L2.start
        rw [List.getElem?_append_left (by rw [List.length_map, ← hl]; exact hi), List.getElem?_map, h1]
        rfl
    · rw [List.getElem?_append_right (by simpa using hi), List.getElem?_replicate] at e
      split at e <;> cases e
theorem mir_len {n k : Nat} {g : SF} {ds : List D} {M : Hd} {o : Rs D} (e : mir n k g ds M = some o) : ds.length = k := by
  unfold mir at e
  split at e
  · assumption
  · cases e
theorem fn_mk {P : Program} {w : World} {K : PySem.W.Frag} {mg : Str → Option Value} {base : Heap} {x qual : Str} {params : Arguments} {body : List Stmt} {scope : Scope} {f : Addr} {fd : FuncData} {N ps : List Str} {k : Nat} {g : SF}
    (F : FunD K x qual params body scope [] [] f fd) (S : FnScope N ps scope)
    (h : ∀ (cdv : Value) (A : Around) (outer : List Env) (s : Shared) (H : Hp) (E : XK), Room k (A.deeper (envOfC qual scope s.heap.objs.size f cdv)) → DSs (cxOf (L2.CX P w) P w K mg base N qual scope f cdv A outer s H E) none (fun cls d _ H => E cls d H) body g) :
    FnOk P w K mg base (L2.CX P w) (k + 1) f fd ps (spD K mg ps.length (mir N.length ps.length g)) := by
  refine F.ok S (fun vs H Q E hsp => ?_) fun cdv A outer s H vs Q E hr hsp => ⟨_, h cdv A outer s H E hr, ?_⟩
  · obtain ⟨p, M, ds, o, R, L, hn, e, po⟩ := hsp
    rw [← reps_len L]
    exact hn
  · obtain ⟨p, M, ds, o, R, L, hn, e, po⟩ := hsp
    unfold mir at e
    rw [if_pos hn] at e
    cases eg : g (startD N.length ds) M with
    | none => rw [eg] at e; exact nomatch e
    | some x =>
      refine ⟨p, M, startD N.length ds, x, R, sl_start L, eg, ?_⟩
      rw [eg] at e
      obtain ⟨fl, M1⟩ := x
      cases fl with
      | nx r =>
        cases e
        exact fun p' H' σ' hp hl R' L' => po p' H' .non hp hl R' rep_non
      | rt d =>
        cases e
        exact fun p' H' v hp hl R' q => po p' H' v hp hl R' q
      | xx c r =>
        cases e
        exact fun p' H' σ' C hp hl R' L' hC => po p' H' C hp hl R' hC
      | bk r => exact nomatch e
      | ct r => exact nomatch e
theorem dfn_of {P : Program} {w : World} {K : PySem.W.Frag} {mg : Str → Option Value} {base : Heap} {x qual : Str} {params : Arguments} {body : List Stmt} {scope : Scope} {f : Addr} {fd : FuncData} {N ps : List Str} {k : Nat} {g : SF}
    (F : FunD K x qual params body scope [] [] f fd) (hmg : mg x = some (.ref f)) (hb : Binds K fd ps []) (h : FnOk P w K mg base (L2.CX P w) k f fd ps (spD K mg ps.length (mir N.length ps.length g))) : Dfn P w K mg base k x ps.length (mir N.length ps.length g) :=
  ⟨fun ds M o e => mir_len e, f, fd, ps, hmg, F.kp, hb, h⟩
/-- nothing leaves -/
theorem calm_of {P : Program} {w : World} {K : PySem.W.Frag} {mg : Str → Option Value} {base : Heap} {k : Nat} {f : Addr} {fd : FuncData} {ps : List Str} {sp : Sp} (h : FnOk P w K mg base (L2.CX P w) k f fd ps sp) : FnOk P w K mg base CX0 k f fd ps (fun vs H Q _ => sp vs H Q fun _ _ _ => False) := by
  refine ⟨fun vs H Q E hs => h.len vs H Q _ hs, fun A outer s H args us vs Q E hr he hb hv hs => ?_⟩
  refine codeAny_mono (h.run A outer s H args us vs Q _ hr he hb hv hs) fun r s' hq => ?_
  cases r with
  | error e =>
    obtain ⟨_, _, _, _, _, _, _, _, _, _, _, _, z⟩ := hq
    exact z.elim
  | ok fl => cases fl <;> exact hq
/-- the law's end -/
theorem sp_law {K : PySem.W.Frag} {mg : Str → Option Value} {m : List D → Hd → Option (Rs D)} {n : Nat} (h : ∀ ns : List Int, ns.length ≤ n → ∃ M, m [.fl (ns.map D.int)] [] = some (.ok (.bl true) M)) (H : Hp) (a : Addr) (ns : List Int) (hn : ns.length ≤ n) (hO : Only H) (hS : SqL K H a (ns.map V.int)) :
    spD K mg 1 m [.ref a] H (fun v _ => v = .bl true) fun _ _ _ => False := by
  obtain ⟨M, e⟩ := h ns hn
  have rr : ∀ ns : List Int, Reps K [] H (ns.map D.int) (ns.map V.int) := fun ns => by
    induction ns with
    | nil => exact reps_nil
    | cons i ns ih => exact reps_cons rep_int ih
  refine ⟨[], [], [.fl (ns.map D.int)], _, ⟨rfl, List.nodup_nil, fun i o e => by simp at e⟩, reps_cons ?_ reps_nil, rfl, e, fun p' H' v _ _ _ q => ?_⟩
  · unfold Rep
    refine ⟨a, _, rfl, ?_, rr ns⟩
    rcases hS with (hS | ⟨o, hS⟩) | hS
    · rcases hO a with z | ⟨o, xs, z⟩
      · rw [z] at hS; cases hS
      · rw [z] at hS; cases hS
    · exact .inl ⟨o, hS⟩
    · exact .inr fun H' => .inr hS
  · unfold Rep at q
    exact q
end DI

end

section
set_option Elab.async false
set_option linter.all false
set_option maxRecDepth 100000
set_option maxHeartbeats 4000000
/-! DI6: more built-ins. -/
namespace DI
open PySem PySem.Spec PyProof.Rows L2
/-- int(..) -/
def intG : D → Hd → Option (Rs D) := fun d M => match d with
  | .int i => some (.ok (.int i) M)
  | .bl b => some (.ok (.int (if b then 1 else 0)) M)
  | _ => none
section
variable {X : Cx} {z : Zx} {W : WX} {a b c e : Expr} {fa fb fc f : EF} {pos : Pos} {es : List Expr} {g : AF}
theorem de_int1 {p' : Pos} (ha : DE X z W e f) (hm : X.mg "int" = none) (hg : Gl X "int" := by rfl) (he : starEach [e] X.env = (false, eval e X.env) :: starEach [] X.env := by rfl) : DE X z W (.Call (.Name "int" p') [e] [] pos) (eUn intG f) := by
  refine (pe_callTy call_int1 hg hm PyProof.Rows.boot_int (pa_cons ha pa_nil he) (he := he)).imp ?_
  rintro σ H Q ⟨p, M, ρ, o, R, L, e, po⟩
  refine gE_bnd R L e po fun d M1 p1 H1 v R1 L1 hl1 hp1 q1 e1 po1 => ?_
  cases d with
  | int i =>
    cases e1
    unfold Rep at q1
    exact .inl ⟨i, by rw [q1], po1.ok R1 rep_int⟩
  | bl i =>
    cases e1
    unfold Rep at q1
    exact .inr ⟨i, by rw [q1], po1.ok R1 rep_int⟩
  | _ => cases e1
end
end DI
namespace DI
open PySem PySem.Spec PyProof.Rows L2
theorem look_rel {g : Str → NameKind → NameKind} {x : Str} : ∀ {l : List (Str × NameKind)}, l.lookup x = some .cell ∨ l.lookup x = some .free → (∀ n, g n .cell = .cell) → (∀ n, g n .free = .cell ∨ g n .free = .free) →
    (l.map fun p => (p.1, g p.1 p.2)).lookup x = some .cell ∨ (l.map fun p => (p.1, g p.1 p.2)).lookup x = some .free
  | [], h, _, _ => by simp at h
  | (n, k) :: l, h, h1, h2 => by
    rw [List.map_cons, List.lookup_cons]
    rw [List.lookup_cons] at h
    by_cases e : x == n
    · rw [e] at h ⊢
      dsimp only at h ⊢
      rcases h with h | h
      · cases h; rw [h1]; exact .inl rfl
      · cases h; rcases h2 n with q | q <;> rw [q] <;> simp
    · rw [Bool.not_eq_true] at e
      rw [e] at h ⊢
      exact look_rel h h1 h2
theorem blkOk_in {N : List Str} {s scope : Scope} {own : List (Str × Nat)} {cl : List (Str × Addr)} {C : Addr} {e : Env} (h : blkC N s scope own = true) : BlkOk N (compEnvC s cl C e).scope scope own := by
  let o := blkOk_by h
  refine ⟨o.kind, o.uniq, o.ix, fun y hy hf => ?_, o.own⟩
  have key := look_rel (x := y.1) (g := fun n k => if (k == NameKind.free && e.scope.kind == ScopeKind.function && e.kindOf n == some NameKind.cell) = true then NameKind.cell else k) (o.free y hy hf) (fun n => rfl) (fun n => by
    split
    · exact .inl rfl
    · exact .inr rfl)
  have eq : (compEnvC s cl C e).scope.names = s.names.map fun p => (p.1, if (p.2 == NameKind.free && e.scope.kind == ScopeKind.function && e.kindOf p.1 == some NameKind.cell) = true then NameKind.cell else p.2) := by
    unfold compEnvC relabel
    dsimp only
    apply List.map_congr_left
    rintro ⟨n, k⟩ _
    dsimp only
    split <;> rfl
  rw [eq]
  exact key
end DI

end

section
set_option Elab.async false
set_option linter.all false
set_option maxRecDepth 100000
set_option maxHeartbeats 4000000
/-! DI7: zip and enumerate of lists and tuples, mixed as they come. -/
namespace DI
open PySem PySem.Spec PyProof.Rows L2

/-- k: a tuple, else a list -/
def SqK (K : PySem.W.Frag) (k : Bool) (H : Hp) (a : Addr) (xs : List V) : Prop := match k with
  | true => SqT K H a xs
  | false => SqL K H a xs
def ItK (k : Bool) (h : Heap) (it l : Addr) (i : Nat) : Prop := match k with
  | true => h.IsTupleIter it l i
  | false => h.IsListIter it l i
def SeK (k : Bool) (h : Heap) (l : Addr) (xs : Array Value) : Prop := match k with
  | true => h.IsTuple l xs
  | false => h.IsList l xs
def itO (k : Bool) (l : Addr) : Obj := { cls := .type (match k with | true => "tuple_iterator" | false => "list_iterator"), data := .fields #[.ref l, .int 0 0] }
theorem drK {prog : Program} {w : World} {A : Around} (k : Bool) (hh : A.handled = none) {it l : Addr} (hne : l ≠ it) (xs : Array Value) :
    Draws prog w A it [it, l] xs.size (fun i v => xs[i]? = some v) (fun i h => ItK k h it l i ∧ SeK k h l xs) := by
  cases k
  · exact Draws.list hh it l hne xs
  · exact Draws.tuple hh it l hne xs
theorem begK (k : Bool) (l : Addr) (xs : Array Value) : Begins (.ref l) (itO k l) fun h => SeK k h l xs := by
  cases k
  · exact begins_list l xs
  · exact begins_tuple l xs
theorem itO_at {k : Bool} {h : Heap} {it l : Addr} (e : h.get? it = some (itO k l)) : ItK k h it l 0 := by
  cases k
  · exact ⟨_, e, rfl, rfl⟩
  · exact ⟨_, e, rfl, rfl⟩
theorem ItK.keep {k : Bool} {h h' : Heap} {it l : Addr} {i : Nat} (e : ItK k h it l i) (q : ∀ o, h.get? it = some o → h'.get? it = some o) : ItK k h' it l i := by
  cases k
  · exact Heap.IsListIter.at e q
  · exact Heap.IsTupleIter.at e q
theorem ItK.obj {k : Bool} {h : Heap} {it l : Addr} {i : Nat} (e : ItK k h it l i) : ∃ o, h.get? it = some o ∧ ∀ v, o.data ≠ .cell v := by
  cases k <;> (obtain ⟨o, a, _, d⟩ := e; exact ⟨o, a, fun v q => by rw [d] at q; cases q⟩)
section
variable {X : Cx} {pins : List (Addr × Obj)} {σ : L2.St} {H : Hp} {s : Shared}
theorem sqK {k : Bool} {a : Addr} {xs : List V} (I : Inv X pins σ H s) (h : SqK X.K k H a xs) : (∃ us : List Value, Vals xs us ∧ SeK k s.heap a us.toArray) ∧ @LT.lt Nat _ a s.heap.objs.size ∧ ∀ ys, SqK X.K k H a ys → ys = xs := by
  cases k
  · obtain ⟨us, rv, p, _⟩ := I.list h
    exact ⟨⟨us, rv, p.isList⟩, p.lt, fun ys q => I.list_inj q h⟩
  · obtain ⟨us, rv, p, _⟩ := I.tuple h
    exact ⟨⟨us, rv, p⟩, by obtain ⟨o, e, _⟩ := id p; exact Heap.lt_size e, fun ys q => I.tuple_inj q h⟩
end
theorem a_ne {a b : Nat} (h : a < b ∨ b < a) : @Ne Addr a b := fun e => by
  have e : @Eq Nat a b := e
  omega
theorem a_nm {a b c : Nat} (h : (a < b ∨ b < a) ∧ (a < c ∨ c < a)) : @Not (@Membership.mem Addr (List Addr) _ [b, c] a) := fun e => by
  rcases List.mem_cons.mp e with e | e
  · exact a_ne h.1 e
  · rw [List.mem_singleton] at e
    exact a_ne h.2 e
/-! ### zip -/
def Itz2 (K : PySem.W.Frag) (k1 k2 : Bool) (a b : Addr) : It :=
  ⟨fun i H => ∃ (xs ys : List V) (x y : V), SqK K k1 H a xs ∧ SqK K k2 H b ys ∧ xs[i]? = some x ∧ ys[i]? = some y,
    fun i H v H' => ∃ T x y, v = .ref T ∧ H T = none ∧ H' = upd H T (.tup [x, y]) ∧ (∀ xs, SqK K k1 H a xs → xs[i]? = some x) ∧ ∀ ys, SqK K k2 H b ys → ys[i]? = some y,
    fun i H => ∃ xs ys : List V, SqK K k1 H a xs ∧ SqK K k2 H b ys ∧ (xs.length = i ∧ i ≤ ys.length ∨ ys.length = i ∧ i ≤ xs.length)⟩
theorem zip_cells {z TI TO i1 i2 c : Addr} (h : c ∈ [z, TI, TO, i1, i2]) : @Eq Nat c z ∨ @Eq Nat c TI ∨ @Eq Nat c TO ∨ @Eq Nat c i1 ∨ @Eq Nat c i2 := by simpa using h
theorem not_cell {z TI TO i1 i2 c : Addr} (h : c ∉ [z, TI, TO, i1, i2]) : c ≠ z ∧ c ≠ TO ∧ c ≠ i1 ∧ c ≠ i2 :=
  ⟨fun q => h (by simp [q]), fun q => h (by simp [q]), fun q => h (by simp [q]), fun q => h (by simp [q])⟩
theorem turn_zip2 {P : Program} {w : World} {K : PySem.W.Frag} {elts : List Expr} {kk : Nat} {tpos : Pos} {k1 k2 : Bool} {a b z TI TO i1 i2 : Addr} (S : ZipSep2 z TI TO i1 i2 [i1, a] [i2, b]) (ha : a ≠ i1) (hb : b ≠ i2) :
    Turn P w K (.Tuple elts kk tpos) (Itz2 K k1 k2 a b) [z, TI, TO, i1, i2] z (fun i h => IsZip h z TI TO .none ∧ IsTupOf2 h TI (.ref i1) (.ref i2) ∧ (∃ x y, IsTupOf2 h TO x y) ∧ ItK k1 h i1 a i ∧ ItK k2 h i2 b i) where
  mem := List.mem_cons_self
  obj := by
    rintro i h ⟨hz, hTI, ⟨x, y, hTO⟩, h1, h2⟩ c hc
    rcases zip_cells hc with rfl | rfl | rfl | rfl | rfl
    · exact ⟨_, hz, fun v q => nomatch q⟩
    · exact ⟨_, hTI, fun v q => nomatch q⟩
    · exact ⟨_, hTO, fun v q => nomatch q⟩
    · exact h1.obj
    · exact h2.obj
  keep := by
    rintro i h h' ⟨hz, hTI, ⟨x, y, hTO⟩, h1, h2⟩ k
    exact ⟨k z (by simp) _ hz, k TI (by simp) _ hTI, ⟨x, y, k TO (by simp) _ hTO⟩, h1.keep (k i1 (by simp)), h2.keep (k i2 (by simp))⟩
  item := by
    rintro X rfl rfl rfl hc i pins s σ H E I hf ⟨hz, hTI, ⟨x0, y0, hTO⟩, h1, h2⟩ ⟨xs, ys, x, y, hqx, hqy, hx, hy⟩
    obtain ⟨⟨us, rv, p⟩, la, inj1⟩ := sqK I hqx
    obtain ⟨⟨us2, rv2, p2⟩, lb, inj2⟩ := sqK I hqy
    obtain ⟨u, hu, ru⟩ := rv.get hx
    obtain ⟨u2, hu2, ru2⟩ := rv2.get hy
    have hh : X.A.in1.handled = none := I.ok.hd hc
    have lz : z < s.heap.objs.size := Heap.lt_size hz
    refine wpAny_pyNext_zipD2_item S (drK k1 hh ha us.toArray) (drK k2 hh hb us2.toArray) hz hTI hTO ⟨h1, p⟩ ⟨h2, p2⟩ (List.getElem?_eq_some_iff.mp hu).1 (List.getElem?_eq_some_iff.mp hu2).1 ?_
    intro v1 v2 h' tk e1 e2 hz' hTO' st1 st2 hT hsz hk
    have e1 : u = v1 := Option.some.inj (hu.symm.trans (by simpa using e1))
    have e2 : u2 = v2 := Option.some.inj (hu2.symm.trans (by simpa using e2))
    subst e1 e2
    refine ⟨_, rfl, ?_⟩
    apply wpAny_letOwnedTupleGo_zip (s := { s with heap := h', toks := tk }) hz'
    intro h'' hz'' sb
    have hT2 : IsTupOf2 h'' s.heap.objs.size u u2 := (sb.2 _ (Nat.ne_of_gt lz)).trans hT
    have go : ∀ c o, c ∉ [z, TI, TO, i1, i2] → s.heap.get? c = some o → h''.get? c = some o := fun c o hc e => by
      obtain ⟨c1, c2, c3, c4⟩ := not_cell hc
      exact (sb.2 c c1).trans (hk c o c1 c2 c3 c4 e)
    have ok2 : ObjOk X.prog X.w (upd H s.heap.objs.size (.tup [x, y])) h'' s.heap.objs.size (.tup [x, y]) := by
      refine ⟨?_, [u, u2], .cons ru (.cons ru2 .nil), _, hT2, rfl, _, rfl⟩
      show 2 ≤ sizeLine
      decide
    have I1 := I.turnedNew (t' := tk) (ch := [z, TI, TO, i1, i2]) go hf (Nat.le_refl _) ok2
    refine ⟨.ref s.heap.objs.size, _, I1, rfl, ⟨_, x, y, rfl, I.hok.fresh (Nat.le_refl _), rfl, ?_, ?_⟩, ⟨hz'', ?_, ⟨u, u2, ?_⟩, ?_, ?_⟩, ?_⟩
    · intro zs q; rw [inj1 zs q]; exact hx
    · intro zs q; rw [inj2 zs q]; exact hy
    · exact (sb.2 _ S.TIz).trans (hk _ _ S.TIz S.TITO S.TIi1 S.TIi2 hTI)
    · exact (sb.2 _ S.TOz).trans hTO'
    · exact st1.1.keep fun o q => (sb.2 _ S.zi1.symm).trans q
    · exact st2.1.keep fun o q => (sb.2 _ S.zi2.symm).trans q
    · intro c hcm
      have : c ≠ s.heap.objs.size := by
        refine a_ne ?_
        have lt : ∀ {c o}, s.heap.get? c = some o → @LT.lt Nat _ c s.heap.objs.size := fun e => Heap.lt_size e
        have := zip_cells hcm
        obtain ⟨o1, q1, _⟩ := h1.obj
        obtain ⟨o2, q2, _⟩ := h2.obj
        have l00 := lt hz
        have l0 := lt hTI
        have l1 := lt hTO
        have l2 := lt q1
        have l3 := lt q2
        omega
      rw [upd_ne this]
      exact (hf c hcm).1
  done := by
    rintro X rfl rfl rfl hc i pins s σ H E I hf ⟨hz, hTI, ⟨x0, y0, hTO⟩, h1, h2⟩ ⟨xs, ys, hqx, hqy, hend⟩
    obtain ⟨⟨us, rv, p⟩, la, inj1⟩ := sqK I hqx
    obtain ⟨⟨us2, rv2, p2⟩, lb, inj2⟩ := sqK I hqy
    have hh : X.A.in1.handled = none := I.ok.hd hc
    have l1 : us.toArray.size = xs.length := by rw [List.size_toArray]; exact rv.length.symm
    have l2 : us2.toArray.size = ys.length := by rw [List.size_toArray]; exact rv2.length.symm
    refine wpAny_pyNext_zipD2_end S (drK k1 hh ha us.toArray) (drK k2 hh hb us2.toArray) hz hTI hTO ⟨h1, p⟩ ⟨h2, p2⟩ (by omega) (by omega) (by omega) fun h' tk hk => ⟨rfl, ?_⟩
    refine I.turnedL (t' := tk) (ch := [z, TI, TO, i1, i2]) (fun c o hc q => ?_) hf
    obtain ⟨c1, c2, c3, c4⟩ := not_cell hc
    exact hk c o c1 c2 c3 c4 q
  self := by
    rintro A i s Q E ⟨hz, _⟩ h
    exact wpAny_pyIter_zip hz h
def iZip2 (K : PySem.W.Frag) (ta : TA) : TI := fun σ H R => ta σ H fun vs H1 => ∃ a b xs ys k1 k2, vs = [.ref a, .ref b] ∧ SqK K k1 H1 a xs ∧ SqK K k2 H1 b ys ∧ R (Itz2 K k1 k2 a b) H1
theorem pi_zip2 {X : Cx} {e e2 : Expr} {ta : TA} {p pos tpos : Pos} {elts : List Expr} {kk : Nat} (hg : Gl X "zip") (hm : X.mg "zip" = none) (ha : PA X [e, e2] ta)
    (hs : starEach [e, e2] X.env = (false, eval e X.env) :: starEach [e2] X.env := by rfl) (hpl : (backTo pos (starEach [e2] X.env)).any (·.1) = false := by rfl) :
    PI X (.Tuple elts kk tpos) (.Call (.Name "zip" p) [e, e2] [] pos) (iZip2 X.K ta) := by
  refine ⟨fun pins s σ H R I h => Call_ (ld_blt I hg hm PyProof.Rows.boot_zip (PyProof.Rows.callWith_type1 (thn (ha.run pos pins s σ H _ I h) ?_) hs hpl))⟩
  rintro us s1 ⟨_, H1, I1, r1, a, b, xs, ys, k1, k2, rfl, hqx, hqy, q⟩
  obtain ⟨u, u2, rfl, r1, r2⟩ : ∃ u u2, us = [u, u2] ∧ RelV (.ref a) u ∧ RelV (.ref b) u2 := by
    cases r1 with
    | cons r rr =>
      cases rr with
      | cons r' rr =>
        cases rr
        exact ⟨_, _, rfl, r, r'⟩
  cases r1
  cases r2
  obtain ⟨⟨vs, rv, p1⟩, la, _⟩ := sqK I1 hqx
  obtain ⟨⟨vs2, rv2, p2⟩, lb, _⟩ := sqK I1 hqy
  refine zip_begins2 (begK k1 a vs.toArray) (begK k2 b vs2.toArray) p1 p2 fun h' hz hTI hTO h1 h2 hsz hk => wpAny_pyIter_zip hz ?_
  have I2 : Inv X pins σ H1 { s1 with heap := h' } := I1.kept (t' := s1.toks) hk
  have fr : ∀ c, c ∈ [s1.heap.objs.size + 4, s1.heap.objs.size + 2, s1.heap.objs.size + 3, s1.heap.objs.size, s1.heap.objs.size + 1] → FpOk X pins H1 c := fun c hc => by
    have hle : @LE.le Nat _ s1.heap.objs.size c := by
      have := zip_cells hc
      omega
    exact I1.fpOk hle (I1.hok.fresh hle)
  have S : ZipSep2 (s1.heap.objs.size + 4) (s1.heap.objs.size + 2) (s1.heap.objs.size + 3) s1.heap.objs.size (s1.heap.objs.size + 1) [s1.heap.objs.size, a] [s1.heap.objs.size + 1, b] := by
    constructor <;> first | exact List.mem_cons_self | (refine a_ne ?_; omega) | (refine a_nm ?_; omega)
  exact ⟨_, _, _, _, H1, rfl, I2, turn_zip2 S (a_ne (.inl la)) (a_ne (by omega)), ⟨hz, hTI, ⟨_, _, hTO⟩, itO_at h1, itO_at h2⟩, fr, q⟩
/-! ### enumerate -/
def Ite1 (K : PySem.W.Frag) (k : Bool) (a : Addr) : It :=
  ⟨fun i H => ∃ (xs : List V) (x : V), SqK K k H a xs ∧ xs[i]? = some x,
    fun i H v H' => ∃ T x, v = .ref T ∧ H T = none ∧ H' = upd H T (.tup [.int (i : Nat), x]) ∧ ∀ xs, SqK K k H a xs → xs[i]? = some x,
    fun i H => ∃ xs : List V, SqK K k H a xs ∧ xs.length = i⟩
theorem turn_enum1 {P : Program} {w : World} {K : PySem.W.Frag} {elts : List Expr} {kk : Nat} {tpos : Pos} {k : Bool} {a e it : Addr} (ha : a ≠ it) (he : e ≠ it) (hea : e ≠ a) :
    Turn P w K (.Tuple elts kk tpos) (Ite1 K k a) [e, it] e (fun i h => (∃ old, IsEnum h e it ((i : Nat) : Int) old) ∧ ItK k h it a i) where
  mem := List.mem_cons_self
  obj := by
    rintro i h ⟨⟨old, hE⟩, h1⟩ c hc
    have hc : c = e ∨ c = it := by simpa using hc
    rcases hc with rfl | rfl
    · exact ⟨_, hE, fun v q => nomatch q⟩
    · exact h1.obj
  keep := by
    rintro i h h' ⟨⟨old, hE⟩, h1⟩ q
    exact ⟨⟨old, q e (by simp) _ hE⟩, h1.keep (q it (by simp))⟩
  item := by
    rintro X rfl rfl rfl hc i pins s σ H E I hf ⟨⟨old, hE⟩, h1⟩ ⟨xs, x, hqx, hx⟩
    obtain ⟨⟨us, rv, p⟩, la, inj1⟩ := sqK I hqx
    obtain ⟨u, hu, ru⟩ := rv.get hx
    have hh : X.A.in1.handled = none := I.ok.hd hc
    have le : @LT.lt Nat _ e s.heap.objs.size := Heap.lt_size hE
    refine wpAny_pyNext_enum_itemD (drK k hh ha us.toArray) hE ⟨h1, p⟩ (List.getElem?_eq_some_iff.mp hu).1 he (by simp [he, hea]) ?_
    intro v1 h' tk e1 hE' st1 hT hsz hk
    have e1 : u = v1 := Option.some.inj (hu.symm.trans (by simpa using e1))
    subst e1
    refine ⟨_, rfl, ?_⟩
    apply wpAny_letOwnedTupleGo_enum (s := { s with heap := h', toks := tk + 1 }) hE'
    intro h'' hE'' sb
    have hT2 : h''.get? s.heap.objs.size = some { cls := .type "tuple", data := .seq #[.int i tk, u] } := (sb.2 _ (a_ne (.inr le))).trans hT
    have go : ∀ c o, c ∉ [e, it] → s.heap.get? c = some o → h''.get? c = some o := fun c o hc q => by
      have c1 : c ≠ e := fun z => hc (by simp [z])
      have c2 : c ≠ it := fun z => hc (by simp [z])
      exact (sb.2 c c1).trans (hk c o c1 c2 q)
    have ok2 : ObjOk X.prog X.w (upd H s.heap.objs.size (.tup [.int (i : Nat), x])) h'' s.heap.objs.size (.tup [.int (i : Nat), x]) := by
      refine ⟨?_, [.int i tk, u], .cons ⟨_, rfl⟩ (.cons ru .nil), _, hT2, rfl, _, rfl⟩
      show 2 ≤ sizeLine
      decide
    have I1 := I.turnedNew (t' := tk + 1) (ch := [e, it]) go hf (Nat.le_refl _) ok2
    refine ⟨.ref s.heap.objs.size, _, I1, rfl, ⟨_, x, rfl, I.hok.fresh (Nat.le_refl _), rfl, ?_⟩, ⟨⟨u, ?_⟩, ?_⟩, ?_⟩
    · intro zs q; rw [inj1 zs q]; exact hx
    · exact hE''
    · exact st1.1.keep fun o q => (sb.2 _ he.symm).trans q
    · intro c hcm
      have : c ≠ s.heap.objs.size := by
        refine a_ne (.inl ?_)
        have hc : c = e ∨ c = it := by simpa using hcm
        obtain ⟨o1, q1, _⟩ := h1.obj
        rcases hc with rfl | rfl
        · exact le
        · exact Heap.lt_size q1
      rw [upd_ne this]
      exact (hf c hcm).1
  done := by
    rintro X rfl rfl rfl hc i pins s σ H E I hf ⟨⟨old, hE⟩, h1⟩ ⟨xs, hqx, hend⟩
    obtain ⟨⟨us, rv, p⟩, la, inj1⟩ := sqK I hqx
    have hh : X.A.in1.handled = none := I.ok.hd hc
    have l1 : us.toArray.size = i := by rw [List.size_toArray, ← hend]; exact rv.length.symm
    subst l1
    refine wpAny_pyNext_enum_endD (drK k hh ha us.toArray) hE ⟨h1, p⟩ fun h' hk => ⟨rfl, ?_⟩
    refine I.turnedL (t' := s.toks) (ch := [e, it]) (fun c o hc q => ?_) hf
    exact hk c o (fun z => hc (by simp [z])) q
  self := by
    rintro A i s Q E ⟨⟨_, hE⟩, _⟩ h
    exact wpAny_pyIter_enum hE h
theorem meets_enum1 {v : Value} {o : Obj} {G : Heap → Prop} (B : Begins v o G) :
    Meets (Builtin.«enumerate.__new__» ⟨[.type "enumerate", v], []⟩) (fun _ R s => G s.heap ∧
      R (.ok (.ret (.ref (s.heap.push o).objs.size))) { s with heap := (s.heap.push o).push { cls := .type "enumerate", data := .fields #[.none, .bool false, .ref s.heap.objs.size, rawInt 0, .none, .none] } }) :=
  .of_wp fun prog w A R s h => by
    obtain ⟨hp, g, d, tk, os⟩ := s
    obtain ⟨b1, h⟩ := h
    have hsub := sub_enumerate
    have st : ∀ {A' : Around} {E : Value → Shared → Prop} {Q : Value → Shared → Prop}, Q (.ref hp.objs.size) ⟨hp.push o, g, d, tk, os⟩ → wpAny (model prog w) A' (pyIter v) Q E ⟨hp, g, d, tk, os⟩ := fun q => B.iter prog w _ _ _ _ b1 q
    wp_walk using st
    refine wpAny_stack_any fun stk => wpAny_pure ?_
    split
    · rename_i c _ _ _ _ _
      cases (c == Value.type "enumerate") <;> (wp_walk using st; exact ⟨_, rfl, h⟩)
    · wp_walk using st
      exact ⟨_, rfl, h⟩
theorem enum_begins1 {prog : Program} {w : World} {A : Around} {E : Value → Shared → Prop} {s : Shared} {v : Value} {o : Obj} {G : Heap → Prop} {Q : Value → Shared → Prop} (B : Begins v o G) (b1 : G s.heap)
    (h : ∀ h', IsEnum h' (s.heap.objs.size + 1) s.heap.objs.size 0 .none → h'.get? s.heap.objs.size = some o → (∀ b o, s.heap.get? b = some o → h'.get? b = some o) → Q (.ref (s.heap.objs.size + 1)) { s with heap := h' }) :
    wpAny (model prog w) A (call (.type "enumerate") [v]) Q E s := by
  refine callType_new F.called_enumerate (by decide) (F.typeCall_enumerate_1 _) (F.newCall_enumerate_1 _) (fun obj => F.args_object_init_2 obj _) F.entry_enumerate_new (meets_enum1 B) ⟨b1, ?_⟩
  have sz : (s.heap.push o).objs.size = s.heap.objs.size + 1 := Heap.size_push ..
  have hE := Heap.get?_push_size (s.heap.push o) (o := { cls := .type "enumerate", data := .fields #[.none, .bool false, .ref s.heap.objs.size, rawInt 0, .none, .none] }) rfl
  show _ ∧ _
  rw [sz] at hE ⊢
  exact ⟨⟨_, hE, rfl⟩, h _ hE (Heap.get?_push_of_some _ (Heap.get?_push_size _ B.free)) fun b o x => Heap.get?_push_of_some _ (Heap.get?_push_of_some _ x)⟩
def iEnum1 (K : PySem.W.Frag) (ta : TA) : TI := fun σ H R => ta σ H fun vs H1 => ∃ a xs k, vs = [.ref a] ∧ SqK K k H1 a xs ∧ R (Ite1 K k a) H1
theorem pi_enum1 {X : Cx} {e : Expr} {ta : TA} {p pos tpos : Pos} {elts : List Expr} {kk : Nat} (hg : Gl X "enumerate") (hm : X.mg "enumerate" = none) (ha : PA X [e] ta) (hs : starEach [e] X.env = [(false, eval e X.env)] := by rfl) :
    PI X (.Tuple elts kk tpos) (.Call (.Name "enumerate" p) [e] [] pos) (iEnum1 X.K ta) := by
  refine ⟨fun pins s σ H R I h => Call_ (ld_blt I hg hm boot_enumerate (PyProof.Rows.callWith_type1 (thn (ha.run pos pins s σ H _ I h) ?_) hs rfl))⟩
  rintro us s1 ⟨_, H1, I1, r1, a, xs, k, rfl, hqx, q⟩
  obtain ⟨u, rfl, ru⟩ : ∃ u, us = [u] ∧ RelV (.ref a) u := by
    cases r1 with
    | cons r rr =>
      cases rr
      exact ⟨_, rfl, r⟩
  cases ru
  obtain ⟨⟨vs, rv, p1⟩, la, _⟩ := sqK I1 hqx
  refine enum_begins1 (begK k a vs.toArray) p1 fun h' hE h1 hk => wpAny_pyIter_enum hE ?_
  have I2 : Inv X pins σ H1 { s1 with heap := h' } := I1.kept (t' := s1.toks) hk
  have fr : ∀ c, c ∈ [s1.heap.objs.size + 1, s1.heap.objs.size] → FpOk X pins H1 c := fun c hc => by
    have hle : @LE.le Nat _ s1.heap.objs.size c := by
      have : @Eq Nat c (s1.heap.objs.size + 1) ∨ @Eq Nat c s1.heap.objs.size := by simpa using hc
      omega
    exact I1.fpOk hle (I1.hok.fresh hle)
  exact ⟨_, _, _, _, H1, rfl, I2, turn_enum1 (a_ne (.inl la)) (a_ne (by omega)) (a_ne (by omega)), ⟨⟨.none, hE⟩, itO_at h1⟩, fr, q⟩
/-! ### of data -/
def sqD (d : D) (M : Hd) : Option (List D × Gd) := match d with
  | .tup ds => some (ds, [])
  | .fl ds => some (ds, [])
  | .ref i => (match M[i]? with
    | some (.lst ds) => some (ds, [(i, ds)])
    | _ => none)
  | _ => none
def pairsD (xs ys : List D) : List D := List.zipWith (fun x y => D.tup [x, y]) xs ys
def numbD (xs : List D) : List D := xs.zipIdx.map fun p => D.tup [.int ((p.2 : Nat) : Int), p.1]
def zip2I (fa fb : EF) : IF := fun r M => bnd (fa r M) fun x M1 => bnd (fb r M1) fun y M2 => match sqD x M2, sqD y M2 with
  | some (xs, g), some (ys, h) => some (.ok (pairsD xs ys, g ++ h) M2)
  | _, _ => none
def enumI (f : EF) : IF := fun r M => bnd (f r M) fun x M1 => match sqD x M1 with
  | some (xs, g) => some (.ok (numbD xs, g) M1)
  | _ => none
theorem still_app {g h : Gd} {M : Hd} : Still (g ++ h) M ↔ Still g M ∧ Still h M := by
  unfold Still
  rw [List.forall_mem_append]
theorem sq_of {k : Kx} {p : List Addr} {M : Hd} {H : Hp} {d : D} {v : V} {ds : List D} {g : Gd} (R : Rl k.K k.mg p M H) (q : Rep k.K p H d v) (e : sqD d M = some (ds, g)) :
    ∃ a b, v = .ref a ∧ Still g M ∧ ∀ p' M' H', p <+: p' → Le H H' → Rl k.K k.mg p' M' H' → Still g M' → ∃ vs, Reps k.K p' H' ds vs ∧ SqK k.K b H' a vs := by
  obtain ⟨s1, s2, s3⟩ := seq_of R q
  cases d with
  | tup es =>
    cases e
    obtain ⟨a, vs, rfl, s, r⟩ := s1 _ rfl
    exact ⟨a, true, rfl, (by simp), fun p' M' H' hp hl R' _ => ⟨vs, Reps.up hp hl _ r, hl.sqT s⟩⟩
  | fl es =>
    cases e
    obtain ⟨a, rfl, s⟩ := s2 _ rfl
    exact ⟨a, false, rfl, (by simp), fun p' M' H' hp hl R' _ => s p' M' H' hp hl R'⟩
  | ref i =>
    unfold sqD at e
    dsimp only at e
    split at e
    · rename_i es ho
      cases e
      obtain ⟨a, rfl, s⟩ := s3 _ rfl
      refine ⟨a, false, rfl, (by simpa using ho), fun p' M' H' hp hl R' S => s ds p' M' H' hp hl R' ?_⟩
      simpa using S
    · cases e
  | _ => cases e
section
variable {X : Cx} {z : Zx} {W : WX} {a b e : Expr} {fa fb f : EF} {pos : Pos}
theorem di_zip {p' tpos : Pos} {elts : List Expr} {kk : Nat} (ha : DE X z W a fa) (hb : DE X z W b fb) (hm : X.mg "zip" = none) (hg : Gl X "zip" := by rfl) (hs : starEach [a, b] X.env = (false, eval a X.env) :: starEach [b] X.env := by rfl) (hs2 : starEach [b] X.env = (false, eval b X.env) :: starEach [] X.env := by rfl)
    (hpl : (backTo pos (starEach [b] X.env)).any (·.1) = false := by rfl) : DI_ X z W (.Tuple elts kk tpos) (.Call (.Name "zip" p') [a, b] [] pos) (zip2I fa fb) := by
  refine (pi_zip2 hg hm (pa_cons ha (pa_cons hb pa_nil hs2) hs) hs hpl).imp ?_
  rintro σ H Q ⟨p, M, ρ, o, R, L, e, po⟩
  refine gE_bnd R L e po fun d M1 p1 H1 v R1 L1 hl1 hp1 q1 e1 po1 => ?_
  refine gE_bnd R1 L1 e1 po1 fun d2 M2 p2 H2 v2 R2 L2 hl2 hp2 q2 e2 po2 => ?_
  split at e2
  · rename_i xs g ys h hx hy
    cases e2
    obtain ⟨a1, b1, rfl, s1, k1⟩ := sq_of R2 (Rep.up hp2 hl2 _ q1) hx
    obtain ⟨a2, b2, rfl, s2, k2⟩ := sq_of R2 q2 hy
    obtain ⟨vs1, _, t1⟩ := k1 p2 M2 H2 (List.prefix_refl _) (Le.refl _) R2 s1
    obtain ⟨vs2, _, t2⟩ := k2 p2 M2 H2 (List.prefix_refl _) (Le.refl _) R2 s2
    refine ⟨a1, a2, vs1, vs2, b1, b2, rfl, t1, t2, po2.ok R2 ?_⟩
    intro n p' M' H' hp hl R' S
    obtain ⟨S1, S2⟩ := still_app.mp S
    obtain ⟨ws1, r1, u1⟩ := k1 p' M' H' hp hl R' S1
    obtain ⟨ws2, r2, u2⟩ := k2 p' M' H' hp hl R' S2
    have l1 := reps_len r1
    have l2 := reps_len r2
    refine ⟨fun d hd => ?_, fun hn => ?_⟩
    · have hd : (pairsD xs ys)[n]? = some d := hd
      unfold pairsD at hd
      rw [List.getElem?_zipWith_eq_some] at hd
      obtain ⟨x, y, hx1, hy1, rfl⟩ := hd
      obtain ⟨x', e1, e2⟩ := reps_get r1 hx1
      obtain ⟨y', e3, e4⟩ := reps_get r2 hy1
      refine ⟨⟨ws1, ws2, x', y', u1, u2, e1, e3⟩, ?_⟩
      rintro v H'' ⟨T, x2, y2, rfl, hT, rfl, g1, g2⟩
      have := g1 ws1 u1
      rw [e1] at this
      cases this
      have := g2 ws2 u2
      rw [e3] at this
      cases this
      refine ⟨Le.new hT, R'.other hT, rep_tup (SqT.of upd_same) (Reps.up (List.prefix_refl _) (Le.new hT) _ (reps_cons e2 (reps_cons e4 reps_nil)))⟩
    · have hn : n = (pairsD xs ys).length := hn
      unfold pairsD at hn
      rw [List.length_zipWith] at hn
      exact ⟨ws1, ws2, u1, u2, by omega⟩
  · cases e2
theorem di_enum {p' tpos : Pos} {elts : List Expr} {kk : Nat} (he : DE X z W e f) (hm : X.mg "enumerate" = none) (hg : Gl X "enumerate" := by rfl) (hs : starEach [e] X.env = [(false, eval e X.env)] := by rfl) : DI_ X z W (.Tuple elts kk tpos) (.Call (.Name "enumerate" p') [e] [] pos) (enumI f) := by
  refine (pi_enum1 hg hm (pa_cons he pa_nil hs) hs).imp ?_
  rintro σ H Q ⟨p, M, ρ, o, R, L, e, po⟩
  refine gE_bnd R L e po fun d M1 p1 H1 v R1 L1 hl1 hp1 q1 e1 po1 => ?_
  split at e1
  · rename_i xs g hx
    cases e1
    obtain ⟨a1, b1, rfl, s1, k1⟩ := sq_of R1 q1 hx
    obtain ⟨vs1, _, t1⟩ := k1 p1 M1 H1 (List.prefix_refl _) (Le.refl _) R1 s1
    refine ⟨a1, vs1, b1, rfl, t1, po1.ok R1 ?_⟩
    intro n p' M' H' hp hl R' S
    obtain ⟨ws1, r1, u1⟩ := k1 p' M' H' hp hl R' S
    have l1 := reps_len r1
    refine ⟨fun d hd => ?_, fun hn => ?_⟩
    · have hd : (numbD xs)[n]? = some d := hd
      unfold numbD at hd
      rw [List.getElem?_map, List.getElem?_zipIdx, Option.map_map] at hd
      cases hx1 : xs[n]? with
      | none => rw [hx1] at hd; cases hd
      | some x =>
        rw [hx1] at hd
        cases hd
        obtain ⟨x', e1, e2⟩ := reps_get r1 hx1
        refine ⟨⟨ws1, x', u1, e1⟩, ?_⟩
        rintro v H'' ⟨T, x2, rfl, hT, rfl, g1⟩
        have := g1 ws1 u1
        rw [e1] at this
        cases this
        refine ⟨Le.new hT, R'.other hT, rep_tup (SqT.of upd_same) (Reps.up (List.prefix_refl _) (Le.new hT) _ (reps_cons ?_ (reps_cons e2 reps_nil)))⟩
        rw [Nat.zero_add]
        exact rep_int
    · have hn : n = (numbD xs).length := hn
      unfold numbD at hn
      rw [List.length_map, List.length_zipIdx] at hn
      exact ⟨ws1, u1, by omega⟩
  · cases e1
end
end DI

end

section
set_option Elab.async false
set_option linter.all false
set_option maxRecDepth 100000
set_option maxHeartbeats 4000000
/-! DI8: statements that are never reached; all, any, max; defs that call themselves. -/
namespace DI
open PySem PySem.Spec PyProof.Rows L2

/-- a statement of which nothing is told -/
def sNever : SF := fun _ _ => none
theorem gS_no {X : Cx} {z : Zx} {W : WX} {st : Stmt} : DS X z W st sNever := by
  refine ⟨fun pins s σ H Q I h => ?_⟩
  obtain ⟨p, M, r, o, R, L, e, _⟩ := h
  exact nomatch e
/-- a def of which nothing is told yet -/
theorem Dfn.none {P : Program} {w : World} {K : PySem.W.Frag} {mg : Str → Option Value} {base : Heap} {k : Nat} {x : Str} {n : Nat} {f : Addr} {fd : FuncData} {ps : List Str} (hmg : mg x = some (.ref f)) (kp : PySem.W.keepIn K (.ref f) = true) (hb : Binds K fd ps []) :
    Dfn P w K mg base k x n (fun _ _ => Option.none) := by
  refine ⟨fun ds M o e => (nomatch e), f, fd, ps, hmg, kp, hb, ⟨fun vs H Q E h => ?_, fun A outer s H args us vs Q E _ _ _ _ h => ?_⟩⟩
  · obtain ⟨p, M, ds, o, R, L, hn, e, _⟩ := h
    exact nomatch e
  · obtain ⟨p, M, ds, o, R, L, hn, e, _⟩ := h
    exact nomatch e

/-! ### max of ints -/
theorem wkK {prog : Program} {w : World} {A : Around} (k : Bool) (hh : A.handled = Option.none) {I ax : Addr} (hne : ax ≠ I) (xs : Array Value) :
    Walks prog w A I [I, ax] [I] xs.size (fun i v => xs[i]? = some v) (fun i h => ItK k h I ax i ∧ SeK k h ax xs) := by
  cases k
  · exact Walks.list hh I ax hne xs
  · exact Walks.tuple hh I ax hne xs
def maxI : List Int → Int
  | [] => 0
  | x :: xs => xs.foldl max x
theorem foldl_max : ∀ (xs : List Int) (x : Int), (xs.foldl max x = x ∨ xs.foldl max x ∈ xs) ∧ x ≤ xs.foldl max x ∧ ∀ y ∈ xs, y ≤ xs.foldl max x
  | [], x => ⟨.inl rfl, Int.le_refl _, fun _ h => nomatch h⟩
  | a :: xs, x => by
    obtain ⟨h1, h2, h3⟩ := foldl_max xs (max x a)
    rw [List.foldl_cons]
    refine ⟨?_, by omega, fun y hy => ?_⟩
    · rcases h1 with h | h
      · rw [h]
        by_cases q : x ≤ a
        · rw [Int.max_eq_right q]; exact .inr List.mem_cons_self
        · rw [Int.max_eq_left (by omega)]; exact .inl rfl
      · exact .inr (List.mem_cons_of_mem _ h)
    · rcases List.mem_cons.mp hy with rfl | hy
      · omega
      · exact h3 y hy
theorem maxI_mem {xs : List Int} (h : xs ≠ []) : maxI xs ∈ xs := by
  cases xs with
  | nil => exact (h rfl).elim
  | cons x xs =>
    rcases (foldl_max xs x).1 with q | q
    · show xs.foldl max x ∈ _
      rw [q]
      exact List.mem_cons_self
    · exact List.mem_cons_of_mem _ q
theorem maxI_le {xs : List Int} {y : Int} (h : y ∈ xs) : y ≤ maxI xs := by
  cases xs with
  | nil => exact nomatch h
  | cons x xs =>
    rcases List.mem_cons.mp h with rfl | h
    · exact (foldl_max xs y).2.1
    · exact (foldl_max xs x).2.2 y h
theorem best_le (val : Nat → Int) : ∀ k, argBest (fun i j => decide (val i > val j)) k ≤ k ∧ ∀ i, i ≤ k → val i ≤ val (argBest (fun i j => decide (val i > val j)) k)
  | 0 => ⟨Nat.le_refl _, fun i hi => by rw [Nat.le_zero.mp hi]; exact Int.le_refl _⟩
  | k + 1 => by
    obtain ⟨h1, h2⟩ := best_le val k
    unfold argBest
    by_cases q : val (k + 1) > val (argBest (fun i j => decide (val i > val j)) k)
    · rw [if_pos (by simpa using q)]
      refine ⟨Nat.le_refl _, fun i hi => ?_⟩
      rcases Nat.lt_or_eq_of_le hi with h | rfl
      · have := h2 i (by omega); omega
      · exact Int.le_refl _
    · rw [if_neg (by simpa using q)]
      refine ⟨by omega, fun i hi => ?_⟩
      rcases Nat.lt_or_eq_of_le hi with h | rfl
      · exact h2 i (by omega)
      · omega
def rMax1 (K : PySem.W.Frag) : List V → Hp → VK → Prop := fun vs H Q => ∃ (k : Bool) (a : Addr) (ns : List Int), vs = [.ref a] ∧ SqK K k H a (ns.map V.int) ∧ ns ≠ [] ∧ Q (.int (maxI ns)) H
theorem cr_max1 {X : Cx} (hc : X.calm = true) : CallR X (.builtin "max") (rMax1 X.K) := by
  intro pins s σ H vs us Q I r h
  obtain ⟨k, a, ns, rfl, hs, hne, q⟩ := h
  obtain ⟨⟨its, rv, p⟩, la, _⟩ := sqK I hs
  rw [Vals.ref1 r]
  have hl : its.length = ns.length := by rw [← rv.length, List.length_map]
  have hpos : 0 < ns.length := List.length_pos_iff.mpr hne
  refine call_max_walk ((begK k a its.toArray).iter _ _ _ _ _ _ p ?_)
  have hI : ItK k (s.heap.push (itO k a)) s.heap.objs.size a 0 := itO_at (Heap.get?_push_size _ (begK k a its.toArray).free)
  have hS : SeK k (s.heap.push (itO k a)) a its.toArray := (begK k a its.toArray).keeps _ _ p fun b o e => Heap.get?_push_of_some _ e
  have val : ∀ i v, its.toArray[i]? = some v → ∃ t, v = Value.int (ns.getD i 0) t := fun i v e => by
    have e' : its[i]? = some v := by simpa using e
    have hi : i < ns.length := by rw [← hl]; exact (List.getElem?_eq_some_iff.mp e').1
    obtain ⟨u, hu, ru⟩ := rv.get (i := i) (x := .int ns[i]) (by rw [List.getElem?_map, List.getElem?_eq_getElem hi]; rfl)
    rw [e'] at hu
    cases hu
    obtain ⟨t, rfl⟩ := ru
    exact ⟨t, by rw [List.getD_eq_getElem?_getD, List.getElem?_eq_getElem hi]; rfl⟩
  refine ⟨s.heap.objs.size, _, _, _, _, _, _, rfl, wkK (A := X.A.in1) k (I.ok.hd hc) (a_ne (.inl la)) its.toArray, ⟨hI, hS⟩, ?_, by rw [List.size_toArray, hl]; exact hpos, CmpOf.ints_gt (fun i => ns.getD i 0) val, fun v h' tk hP hk => ?_⟩
  · intro b hb
    show @LT.lt Nat _ b (s.heap.push _).objs.size
    rw [Heap.size_push]
    have : @Eq Nat b s.heap.objs.size ∨ @Eq Nat b a := by simpa using hb
    omega
  · obtain ⟨t, rfl⟩ := val _ _ hP
    refine ⟨.int _, H, I.kept fun b o eo => hk b o (fun hm => ?_) (Heap.get?_push_of_some _ eo), ⟨t, rfl⟩, ?_⟩
    · rw [List.mem_singleton] at hm
      exact a_ne (.inl (Heap.lt_size eo)) hm
    · obtain ⟨b1, b2⟩ := best_le (fun i => ns.getD i 0) (its.toArray.size - 1)
      have hsz : its.toArray.size - 1 = ns.length - 1 := by rw [List.size_toArray, hl]
      rw [hsz] at b1 b2 ⊢
      generalize hj : argBest (fun i j => decide (ns.getD i 0 > ns.getD j 0)) (ns.length - 1) = j at b1 b2
      have hjl : j < ns.length := by omega
      have e1 : ns.getD j 0 = ns[j] := by rw [List.getD_eq_getElem?_getD, List.getElem?_eq_getElem hjl]; rfl
      have le1 : ns.getD j 0 ≤ maxI ns := by rw [e1]; exact maxI_le (List.getElem_mem hjl)
      have le2 : maxI ns ≤ ns.getD j 0 := by
        obtain ⟨i, hi, e⟩ := List.mem_iff_getElem.mp (maxI_mem hne)
        have := b2 i (by omega)
        rw [List.getD_eq_getElem?_getD, List.getElem?_eq_getElem hi] at this
        rw [← e]
        exact this
      rw [Int.le_antisymm le1 le2]
      exact q
def intOf : D → Option Int
  | .int i => some i
  | _ => Option.none
def blOf : D → Option Bool
  | .bl i => some i
  | _ => Option.none
def max1G : D → Hd → Option (Rs D) := fun d M => match sqD d M with
  | some (ds, _) => (match ds.mapM intOf with
    | some (n :: ns) => some (.ok (.int (maxI (n :: ns))) M)
    | _ => Option.none)
  | _ => Option.none
def allG : D → Hd → Option (Rs D) := fun d M => match d with
  | .ref i => (match M[i]? with
    | some (.lst ds) => (match ds.mapM blOf with
      | some bs => some (.ok (.bl (bs.all id)) M)
      | _ => Option.none)
    | _ => Option.none)
  | _ => Option.none
def anyG : D → Hd → Option (Rs D) := fun d M => match d with
  | .ref i => (match M[i]? with
    | some (.lst ds) => (match ds.mapM blOf with
      | some bs => some (.ok (.bl (bs.any id)) M)
      | _ => Option.none)
    | _ => Option.none)
  | _ => Option.none
theorem reps_ints {K : PySem.W.Frag} {p : List Addr} {H : Hp} : ∀ {ds : List D} {vs : List V} {ns : List Int}, Reps K p H ds vs → ds.mapM intOf = some ns → vs = ns.map V.int
  | [], _, ns, h, e => by
    unfold Reps at h
    subst h
    simp at e
    subst e
    rfl
  | d :: ds, _, ns, h, e => by
    unfold Reps at h
    obtain ⟨v, ws, rfl, r, q⟩ := h
    rw [List.mapM_cons] at e
    cases d with
    | int i =>
      cases e2 : ds.mapM intOf with
      | none => rw [e2] at e; exact nomatch e
      | some xs =>
        rw [e2] at e
        cases e
        unfold Rep at r
        rw [r, reps_ints q e2]
        rfl
    | _ => exact nomatch e
theorem reps_bls {K : PySem.W.Frag} {p : List Addr} {H : Hp} : ∀ {ds : List D} {vs : List V} {ns : List Bool}, Reps K p H ds vs → ds.mapM blOf = some ns → vs = ns.map V.bl
  | [], _, ns, h, e => by
    unfold Reps at h
    subst h
    simp at e
    subst e
    rfl
  | d :: ds, _, ns, h, e => by
    unfold Reps at h
    obtain ⟨v, ws, rfl, r, q⟩ := h
    rw [List.mapM_cons] at e
    cases d with
    | bl i =>
      cases e2 : ds.mapM blOf with
      | none => rw [e2] at e; exact nomatch e
      | some xs =>
        rw [e2] at e
        cases e
        unfold Rep at r
        rw [r, reps_bls q e2]
        rfl
    | _ => exact nomatch e
section
variable {X : Cx} {z : Zx} {W : WX} {e : Expr} {f : EF} {pos : Pos}
theorem de_max1 {p' : Pos} (hc : X.calm = true) (ha : DE X z W e f) (hm : X.mg "max" = Option.none) (hg : Gl X "max" := by rfl) (he : starEach [e] X.env = (false, eval e X.env) :: starEach [] X.env := by rfl) : DE X z W (.Call (.Name "max" p') [e] [] pos) (eUn max1G f) := by
  refine (pe_callB (cr_max1 hc) hg hm PyProof.Rows.boot_max (pa_cons ha pa_nil he) (he := he)).imp ?_
  rintro σ H Q ⟨p, M, ρ, o, R, L, e, po⟩
  refine gE_bnd R L e po fun d M1 p1 H1 v R1 L1 hl1 hp1 q1 e1 po1 => ?_
  unfold max1G at e1
  split at e1
  · rename_i ds g hd
    split at e1
    · rename_i n ns hn
      cases e1
      obtain ⟨a, b, rfl, s1, k1⟩ := sq_of R1 q1 hd
      obtain ⟨vs, r, s⟩ := k1 p1 M1 H1 (List.prefix_refl _) (Le.refl _) R1 s1
      have := reps_ints r hn
      subst this
      exact ⟨b, a, n :: ns, rfl, s, (fun q => nomatch q), po1.ok R1 rep_int⟩
    · cases e1
  · cases e1
theorem de_all {p' : Pos} (hc : X.calm = true) (ha : DE X z W e f) (hm : X.mg "all" = Option.none) (hg : Gl X "all" := by rfl) (he : starEach [e] X.env = (false, eval e X.env) :: starEach [] X.env := by rfl) : DE X z W (.Call (.Name "all" p') [e] [] pos) (eUn allG f) := by
  refine (pe_callB (cr_all hc) hg hm PyProof.Rows.boot_all (pa_cons ha pa_nil he) (he := he)).imp ?_
  rintro σ H Q ⟨p, M, ρ, o, R, L, e, po⟩
  refine gE_bnd R L e po fun d M1 p1 H1 v R1 L1 hl1 hp1 q1 e1 po1 => ?_
  cases d with
  | ref i =>
    unfold allG at e1
    dsimp only at e1
    split at e1
    · rename_i ds ho
      split at e1
      · rename_i bs hb
        cases e1
        obtain ⟨a, vs, rfl, _, s, r⟩ := rep_lst R1 q1 ho
        have := reps_bls r hb
        subst this
        exact ⟨a, bs, rfl, SqL.of s, po1.ok R1 rep_bl⟩
      · cases e1
    · cases e1
  | _ => cases e1
theorem de_any {p' : Pos} (hc : X.calm = true) (ha : DE X z W e f) (hm : X.mg "any" = Option.none) (hg : Gl X "any" := by rfl) (he : starEach [e] X.env = (false, eval e X.env) :: starEach [] X.env := by rfl) : DE X z W (.Call (.Name "any" p') [e] [] pos) (eUn anyG f) := by
  refine (pe_callB (cr_any hc) hg hm PyProof.Rows.boot_any (pa_cons ha pa_nil he) (he := he)).imp ?_
  rintro σ H Q ⟨p, M, ρ, o, R, L, e, po⟩
  refine gE_bnd R L e po fun d M1 p1 H1 v R1 L1 hl1 hp1 q1 e1 po1 => ?_
  cases d with
  | ref i =>
    unfold anyG at e1
    dsimp only at e1
    split at e1
    · rename_i ds ho
      split at e1
      · rename_i bs hb
        cases e1
        obtain ⟨a, vs, rfl, _, s, r⟩ := rep_lst R1 q1 ho
        have := reps_bls r hb
        subst this
        exact ⟨a, bs, rfl, SqL.of s, po1.ok R1 rep_bl⟩
      · cases e1
    · cases e1
  | _ => cases e1
end
end DI

end

section
set_option Elab.async false
set_option linter.all false
set_option maxRecDepth 100000
set_option maxHeartbeats 4000000
/-! DI9: exceptions of own classes, raised and caught. -/
namespace DI
open PySem PySem.Spec PyProof.Rows L2

/-- the head's facts and one test more -/
def hookQ (n : Nat) (fa : List He.Fa) (fn : List He.DefD) (ex : PySem.W.Frag → Bool) : PySem.W.Hook where
  α := He.AlD × Bool
  obs := fun s => (He.obsD fa fn (He.frG s.heap.get? (He.asD s.heap.get? n)), ex (He.frG s.heap.get? (He.asD s.heap.get? n)))
  val := fun _ => (He.valD fn, true)
  says := fun _ h => ∃ K : PySem.W.Frag, K.In h ∧ He.SaysD fa fn K ∧ ex K = true
  of := fun _ _ e => ⟨_, He.frG_in, congrArg Prod.fst e, congrArg Prod.snd e⟩
  keeps := fun _ _ _ ⟨K, hK, c⟩ k => ⟨K, PySem.W.Frag.In.keeps hK k, c⟩
def obQ (n : Nat) (fa : List He.Fa) (fn : List He.DefD) (ex : PySem.W.Frag → Bool) (g : Addr → Option Obj) : He.AlD × Bool := (He.obsD fa fn (He.frG g (He.asD g n)), ex (He.frG g (He.asD g n)))
theorem obQ_eq {n : Nat} {fa : List He.Fa} {fn : List He.DefD} {ex : PySem.W.Frag → Bool} {g : Addr → Option Obj} {s : Shared} (h : ∀ a, g a = s.heap.get? a) : obQ n fa fn ex g = (hookQ n fa fn ex).obs s := by
  have e : g = s.heap.get? := funext h
  rw [e]
  rfl

/-- an own class of exceptions over ValueError, without own methods -/
structure XCl (K : PySem.W.Frag) (mg : Str → Option Value) (c : Str) : Prop where
  ex : ∃ C, mg c = some (.ref C) ∧ PySem.W.excIn K C He.veBase "ValueError.__new__" = true ∧ PySem.W.keepIn K (.ref C) = true ∧ PySem.W.subIn K (.ref C) (.type "BaseException") = some true ∧ PySem.W.typeIn K (.ref C) = some (.type "type")
section
variable {X : Cx} {W : WX}
theorem ds_raise {c m : Str} {j : Nat} {p p2 pos pos' : Pos} {z : Zx} (hc : X.calm = true) (tk : Takes X W) (F : XCl X.K X.mg c) (hg : Gl X c := by rfl) (hdb : (c == ("__debug__" : Str)) = false := by decide) :
    DS X z W (.Raise (some (.Call (.Name c p) [.Constant (.str m) j p2] [] pos)) none pos') (sRaise c) := by
  obtain ⟨C, g1, g2, g3, g4, g5⟩ := F.ex
  refine (ps_raise hc tk (pmk_own PySem.F.excBase_ValueError g2 g1 g3 (raises_own g4 g5) hg hdb)).imp ?_
  rintro Dn σ H ⟨q, M, r, o, R, L, e, po⟩
  cases e
  exact po q H σ C (List.prefix_refl q) (Le.refl H) R L g1
end
/-! ### try -/
def clr (i : Nat) (r : Ev) : Ev := r.set i none
/-- try: body except C as x (slot i): suite; sub: whether a class is under C -/
def sTryAs (sub : Str → Option Bool) (i : Nat) (body : SF) (suite : Str → SF) : SF := fun r M => match body r M with
  | some (.xx c r1, M1) => (match sub c with
    | some true => (match suite c (clr i r1) M1 with
      | some (.nx r2, M2) => some (.nx (clr i r2), M2)
      | some (.bk r2, M2) => some (.bk (clr i r2), M2)
      | some (.ct r2, M2) => some (.ct (clr i r2), M2)
      | some (.rt d, M2) => some (.rt d, M2)
      | _ => none)
    | some false => some (.xx c r1, M1)
    | none => none)
  | o => o
/-- .. without a name -/
def sTry (sub : Str → Option Bool) (body : SF) (suite : Str → SF) : SF := fun r M => match body r M with
  | some (.xx c r1, M1) => (match sub c with
    | some true => (match suite c r1 M1 with
      | some (.xx _ _, _) => none
      | o => o)
    | some false => some (.xx c r1, M1)
    | none => none)
  | o => o
theorem Sl.hold {K : PySem.W.Frag} {p : List Addr} {H : Hp} {r : Ev} {σ : L2.St} (s : Sl K none p H r σ) (i : Nat) (a : Addr) : Sl K (some (a, i)) p H (clr i r) (σ.set i (some (.ref a))) := by
  refine ⟨by unfold clr; rw [List.length_set, List.length_set]; exact s.len, fun j d e => ?_, fun b k hz e => ?_⟩
  · unfold clr at e
    by_cases hj : i = j
    · subst hj
      have hi : i < r.length := by
        have := (List.getElem?_eq_some_iff.mp e).1
        rwa [List.length_set] at this
      rw [List.getElem?_set_self hi] at e
      cases e
    · rw [List.getElem?_set_ne hj] at e ⊢
      exact s.at_ j d e
  · cases hz
    have hi : i < σ.length := by
      have := (List.getElem?_eq_some_iff.mp e).1
      unfold clr at this
      rw [List.length_set] at this
      rw [← s.len]
      exact this
    rw [List.getElem?_set_self hi]
theorem Sl.free {K : PySem.W.Frag} {z : Zx} {p : List Addr} {H : Hp} {r : Ev} {σ : L2.St} (s : Sl K z p H r σ) (i : Nat) : Sl K none p H (clr i r) (σ.set i none) := by
  unfold clr
  refine ⟨by rw [List.length_set, List.length_set]; exact s.len, fun j e h => ?_, fun a j hz h => nomatch hz⟩
  by_cases hj : i = j
  · subst hj
    have hi : i < r.length := by
      have := (List.getElem?_eq_some_iff.mp h).1
      rwa [List.length_set] at this
    rw [List.getElem?_set_self hi] at h
    cases h
  · rw [List.getElem?_set_ne hj] at h
    obtain ⟨u, e', q'⟩ := s.at_ j e h
    exact ⟨u, by rw [List.getElem?_set_ne hj]; exact e', q'⟩
/-- what is known of the classes that a body may raise -/
def SubOk (X : Cx) (hc : Value) (sub : Str → Option Bool) : Prop := ∀ c b D, sub c = some b → X.mg c = some (.ref D) → PySem.W.exmOne X.K (.ref D) hc = some b
section
variable {X : Cx} {W : WX} {x n : Str} {c : Value} {i : Nat} {body suite : List Stmt} {b₀ : Stmt} {np pos pos' : Pos} {sub : Str → Option Bool} {g : SF} {gs : Str → SF}
theorem ds_tryAs (hs : X.stack = X.env :: X.outer) (hf : X.env.frame = some X.env.locals) (hN : X.N.Nodup) (hi : X.N[i]? = some n) (hln : X.env.kindOf n = some .local) (hc : Names X x c) (tk : Takes X W) (so : SubOk X c sub)
    (hb : ∀ (W : WX) (pn : List (Addr × Obj)) (xe : Value → Shared → Prop), Takes (X.tr pn xe) W → PassesOwn (model X.prog X.w) X.A X.env xe → DSs (X.tr pn xe) none W body g)
    (hsu : ∀ (a : Addr) (oe : Obj) (dn : Str) (D : Addr) (pn : List (Addr × Obj)), X.mg dn = some (.ref D) → Zc (.ref D) none oe → (∃ vs, oe.data = .fields vs) → DSs (X.suite a ((a, oe) :: pn)) (some (a, i)) W0 (b₀ :: suite) (gs dn)) :
    DS X none W (.Try body [.ExceptHandler (some (.Name x np)) (some n) (b₀ :: suite) pos'] [] [] pos) (sTryAs sub i g gs) := by
  let ts : Addr → Value → Option Addr → TS := fun a cls d Dn σ H => ∃ dn D, cls = .ref D ∧ d = none ∧ X.mg dn = some (.ref D) ∧ gS ⟨X.K, X.mg, some (a, i)⟩ W0 (gs dn) Dn σ H
  refine (ps_try_as (tb := fun W => gS (Cx.k X none) W g) (ts := ts) hs hf hN hi hln hc tk hb (fun a oe cls d pn hz hv => ⟨fun pins s σ H Dn I h => ?_⟩)).imp ?_
  · obtain ⟨dn, D, rfl, rfl, hm, h⟩ := h
    exact (hsu a oe dn D pn hm hz hv).run pins s σ H Dn I h
  rintro Dn σ H ⟨p, M, r, o, R, L, e, po⟩
  unfold sTryAs at e
  cases eb : g r M with
  | none => rw [eb] at e; cases e
  | some w =>
    obtain ⟨fl, M1⟩ := w
    refine ⟨p, M, r, (fl, M1), R, L, eb, ?_⟩
    rw [eb] at e
    cases fl with
    | nx r1 => cases e; exact po
    | bk r1 => cases e; exact po
    | ct r1 => cases e; exact po
    | rt d => cases e; exact po
    | xx c1 r1 =>
      intro p' H' σ' C hp hl R' L' hC
      dsimp only at e
      cases hsb : sub c1 with
      | none => rw [hsb] at e; cases e
      | some b =>
        rw [hsb] at e
        refine ⟨b, so c1 b C hsb hC, fun hbt a ha => ?_, fun hbf => ?_⟩
        · subst hbt
          refine ⟨c1, C, rfl, rfl, hC, ?_⟩
          dsimp only at e
          cases es : gs c1 (clr i r1) M1 with
          | none => rw [es] at e; cases e
          | some w =>
            obtain ⟨fl2, M2⟩ := w
            refine ⟨p', M1, clr i r1, (fl2, M2), R', L'.hold i a, es, ?_⟩
            rw [es] at e
            cases fl2 with
            | nx r2 => cases e; exact fun p2 H2 σ2 hp2 hl2 R2 L2 => po p2 H2 _ (hp.trans hp2) (hl.trans hl2) R2 (L2.free i)
            | bk r2 => cases e; exact fun p2 H2 σ2 hp2 hl2 R2 L2 => po p2 H2 _ (hp.trans hp2) (hl.trans hl2) R2 (L2.free i)
            | ct r2 => cases e; exact fun p2 H2 σ2 hp2 hl2 R2 L2 => po p2 H2 _ (hp.trans hp2) (hl.trans hl2) R2 (L2.free i)
            | rt d => cases e; exact fun p2 H2 v hp2 hl2 R2 q => po p2 H2 v (hp.trans hp2) (hl.trans hl2) R2 q
            | xx c2 r2 => cases e
        · subst hbf
          cases e
          exact po p' H' σ' C hp hl R' L' hC
theorem ds_try (hs : X.stack = X.env :: X.outer) (hf : X.env.frame = some X.env.locals) (hc : Names X x c) (tk : Takes X W) (so : SubOk X c sub)
    (hb : ∀ (W : WX) (pn : List (Addr × Obj)) (xe : Value → Shared → Prop), Takes (X.tr pn xe) W → PassesOwn (model X.prog X.w) X.A X.env xe → DSs (X.tr pn xe) none W body g)
    (hsu : ∀ (a : Addr) (oe : Obj) (dn : Str) (D : Addr) (pn : List (Addr × Obj)), X.mg dn = some (.ref D) → Zc (.ref D) none oe → (∃ vs, oe.data = .fields vs) → DSs (X.suite a ((a, oe) :: pn)) none W0 (b₀ :: suite) (gs dn)) :
    DS X none W (.Try body [.ExceptHandler (some (.Name x np)) none (b₀ :: suite) pos'] [] [] pos) (sTry sub g gs) := by
  let ts : Addr → Value → Option Addr → TS := fun a cls d Dn σ H => ∃ dn D, cls = .ref D ∧ d = none ∧ X.mg dn = some (.ref D) ∧ gS ⟨X.K, X.mg, none⟩ W0 (gs dn) Dn σ H
  refine (ps_try_only (tb := fun W => gS (Cx.k X none) W g) (ts := ts) hs hf hc tk hb (fun a oe cls d pn hz hv => ⟨fun pins s σ H Dn I h => ?_⟩)).imp ?_
  · obtain ⟨dn, D, rfl, rfl, hm, h⟩ := h
    exact (hsu a oe dn D pn hm hz hv).run pins s σ H Dn I h
  rintro Dn σ H ⟨p, M, r, o, R, L, e, po⟩
  unfold sTry at e
  cases eb : g r M with
  | none => rw [eb] at e; cases e
  | some w =>
    obtain ⟨fl, M1⟩ := w
    refine ⟨p, M, r, (fl, M1), R, L, eb, ?_⟩
    rw [eb] at e
    cases fl with
    | nx r1 => cases e; exact po
    | bk r1 => cases e; exact po
    | ct r1 => cases e; exact po
    | rt d => cases e; exact po
    | xx c1 r1 =>
      intro p' H' σ' C hp hl R' L' hC
      dsimp only at e
      cases hsb : sub c1 with
      | none => rw [hsb] at e; cases e
      | some b =>
        rw [hsb] at e
        refine ⟨b, so c1 b C hsb hC, fun hbt a ha => ?_, fun hbf => ?_⟩
        · subst hbt
          refine ⟨c1, C, rfl, rfl, hC, ?_⟩
          dsimp only at e
          cases es : gs c1 r1 M1 with
          | none => rw [es] at e; cases e
          | some w =>
            obtain ⟨fl2, M2⟩ := w
            refine ⟨p', M1, r1, (fl2, M2), R', L', es, ?_⟩
            rw [es] at e
            cases fl2 with
            | nx r2 => cases e; exact fun p2 H2 σ2 hp2 hl2 R2 L2 => po p2 H2 _ (hp.trans hp2) (hl.trans hl2) R2 L2
            | bk r2 => cases e; exact fun p2 H2 σ2 hp2 hl2 R2 L2 => po p2 H2 _ (hp.trans hp2) (hl.trans hl2) R2 L2
            | ct r2 => cases e; exact fun p2 H2 σ2 hp2 hl2 R2 L2 => po p2 H2 _ (hp.trans hp2) (hl.trans hl2) R2 L2
            | rt d => cases e; exact fun p2 H2 v hp2 hl2 R2 q => po p2 H2 v (hp.trans hp2) (hl.trans hl2) R2 q
            | xx c2 r2 => cases e
        · subst hbf
          cases e
          exact po p' H' σ' C hp hl R' L' hC
end
/-! ### isinstance of the exception that is held -/
def eIsE (i : Nat) (o : Option Bool) : EF := fun r M => match r[i]? with
  | some none => (match o with
    | some b => some (.ok (.bl b) M)
    | none => none)
  | _ => none
structure IsI (K : PySem.W.Frag) (mg : Str → Option Value) (c : Str) (tbl : Str → Option Bool) : Prop where
  ex : ∃ C, mg c = some (.ref C) ∧ ∀ d b D, tbl d = some b → mg d = some (.ref D) → ExcC K D ∧ PySem.W.kitOne K (.ref D) (.ref C) = some b
structure IsB (K : PySem.W.Frag) (mg : Str → Option Value) (T : String) (tbl : Str → Option Bool) : Prop where
  ex : ∀ d b D, tbl d = some b → mg d = some (.ref D) → ExcC K D ∧ PySem.W.kitOne K (.ref D) (.type T) = some b
structure Hnd (K : PySem.W.Frag) (mg : Str → Option Value) (c : Str) (sub : Str → Option Bool) : Prop where
  ex : ∃ C, mg c = some (.ref C) ∧ ∀ d b D, sub d = some b → mg d = some (.ref D) → PySem.W.exmOne K (.ref D) (.ref C) = some b
theorem Hnd.ok {X : Cx} {c : Str} {sub : Str → Option Bool} (h : Hnd X.K X.mg c sub) (hg : Gl X c) (hdb : (c == ("__debug__" : Str)) = false) : ∃ v, Names X c v ∧ SubOk X v sub := by
  obtain ⟨C, h1, h2⟩ := h.ex
  exact ⟨.ref C, ⟨hg, hdb, .inl h1⟩, h2⟩
section
variable {X : Cx} {a D : Addr} {oe : Obj} {pn : List (Addr × Obj)} {dn c n : Str} {i : Nat} {tbl : Str → Option Bool} {p' p1 p2 pos : Pos} {W : WX}
theorem de_isE (F : IsI X.K X.mg c tbl) (hm : X.mg dn = some (.ref D)) (hz : Zc (.ref D) none oe) (hf : ∃ vs, oe.data = .fields vs) (hmi : X.mg "isinstance" = none) (hg : Gl X "isinstance" := by rfl) (hgc : Gl X c := by rfl) (hdb : (c == ("__debug__" : Str)) = false := by decide)
    (hN : X.N[i]? = some n := by rfl) (hv : Vis X.env.scope n := by first | exact Or.inl rfl | exact Or.inr (Or.inl rfl) | exact Or.inr (Or.inr rfl)) (hd1 : (n == ("__debug__" : Str)) = false := by decide) (hd2 : (n == ("__classdict__" : Str)) = false := by decide)
    (he : starEach [.Name n p1, .Name c p2] X.env = (false, eval (.Name n p1) X.env) :: starEach [.Name c p2] X.env := by rfl) (hpl : (backTo pos (starEach [.Name c p2] X.env)).any (·.1) = false := by rfl) (he2 : starEach [.Name c p2] X.env = (false, eval (.Name c p2) X.env) :: starEach [] X.env := by rfl) :
    DE (X.suite a ((a, oe) :: pn)) (some (a, i)) W (.Call (.Name "isinstance" p') [.Name n p1, .Name c p2] [] pos) (eIsE i (tbl dn)) := by
  obtain ⟨C, h1, h2⟩ := F.ex
  have nv : PE (X.suite a ((a, oe) :: pn)) (.Name n p1) _ := pe_var (i := i) hN hv hd1 hd2
  have cv : PE (X.suite a ((a, oe) :: pn)) (.Name c p2) _ := pe_glob (v := .ref C) hgc h1 rfl hdb
  cases ht : tbl dn with
  | none =>
    refine ⟨fun pins s σ H Q I h => ?_⟩
    obtain ⟨q, M, r, o, R, L, e, po⟩ := h
    unfold eIsE at e
    split at e <;> cases e
  | some b =>
    obtain ⟨ec, kt⟩ := h2 dn b D ht hm
    refine (pe_callB (X := X.suite a ((a, oe) :: pn)) (call_isE ec hz hf) hg hmi PyProof.Rows.boot_isinstance (pa_cons nv (pa_cons cv pa_nil he2) he) (he := he) (hpl := hpl)).imp ?_
    rintro σ H Q ⟨q, M, r, o, R, L, e, po⟩
    unfold eIsE at e
    split at e
    · rename_i hr
      cases e
      exact ⟨.ref a, L.ex a i rfl hr, .ref C, .ref C, b, rfl, (fun u hu => hu), kt, po.ok R rep_bl⟩
    · cases e
theorem de_isB {T : String} (F : IsB X.K X.mg T tbl) (hm : X.mg dn = some (.ref D)) (hz : Zc (.ref D) none oe) (hf : ∃ vs, oe.data = .fields vs) (hmi : X.mg "isinstance" = none) (hmc : X.mg c = none) (hb : bootBuiltins c = some (.type T)) (hg : Gl X "isinstance" := by rfl) (hgc : Gl X c := by rfl) (hnn : c ≠ "__name__" := by decide) (hdb : (c == ("__debug__" : Str)) = false := by decide)
    (hN : X.N[i]? = some n := by rfl) (hv : Vis X.env.scope n := by first | exact Or.inl rfl | exact Or.inr (Or.inl rfl) | exact Or.inr (Or.inr rfl)) (hd1 : (n == ("__debug__" : Str)) = false := by decide) (hd2 : (n == ("__classdict__" : Str)) = false := by decide)
    (he : starEach [.Name n p1, .Name c p2] X.env = (false, eval (.Name n p1) X.env) :: starEach [.Name c p2] X.env := by rfl) (hpl : (backTo pos (starEach [.Name c p2] X.env)).any (·.1) = false := by rfl) (he2 : starEach [.Name c p2] X.env = (false, eval (.Name c p2) X.env) :: starEach [] X.env := by rfl) :
    DE (X.suite a ((a, oe) :: pn)) (some (a, i)) W (.Call (.Name "isinstance" p') [.Name n p1, .Name c p2] [] pos) (eIsE i (tbl dn)) := by
  have nv : PE (X.suite a ((a, oe) :: pn)) (.Name n p1) _ := pe_var (i := i) hN hv hd1 hd2
  have cv : PE (X.suite a ((a, oe) :: pn)) (.Name c p2) _ := pe_bltn (v := .ty T) hgc hmc hb rfl hnn hdb
  cases ht : tbl dn with
  | none =>
    refine ⟨fun pins s σ H Q I h => ?_⟩
    obtain ⟨q, M, r, o, R, L, e, po⟩ := h
    unfold eIsE at e
    split at e <;> cases e
  | some b =>
    obtain ⟨ec, kt⟩ := F.ex dn b D ht hm
    refine (pe_callB (X := X.suite a ((a, oe) :: pn)) (call_isE ec hz hf) hg hmi PyProof.Rows.boot_isinstance (pa_cons nv (pa_cons cv pa_nil he2) he) (he := he) (hpl := hpl)).imp ?_
    rintro σ H Q ⟨q, M, r, o, R, L, e, po⟩
    unfold eIsE at e
    split at e
    · rename_i hr
      cases e
      exact ⟨.ref a, L.ex a i rfl hr, .ty T, .type T, b, rfl, (fun u hu => hu), kt, po.ok R rep_bl⟩
    · cases e
end
/-! ### the head's part -/
def excB (K : PySem.W.Frag) (x : Str) : Bool :=
  He.eqO (PySem.W.findIn K (.ref (He.ga K x)) "__getattribute__") (some (some (.builtin "BaseException.__getattribute__"))) && (He.eqO (PySem.W.findIn K (.ref (He.ga K x)) "__getattr__") (some none) && (decide (PySem.W.subIn K (.ref (He.ga K x)) (.type "BaseException") = some true) && (PySem.W.hasDictIn K (He.ga K x) && (
  He.eqO (PySem.W.findIn K (.ref (He.ga K x)) "__class__") (some (some (.builtin "object.__class__"))) && (He.eqO (PySem.W.specialIn K (.builtin "object.__class__") "__get__") (some (some (.builtin "getset_descriptor.__get__"))) && (decide (PySem.W.takesIn K (.builtin "object.__class__") = some true) && decide (PySem.W.mroIn K (He.ga K x) (.type "object") = some true)))))))
theorem excB_ok {K : PySem.W.Frag} {x : Str} (h : excB K x = true) : ExcC K (He.ga K x) := by
  obtain ⟨h1, h⟩ := He.ba h
  obtain ⟨h2, h⟩ := He.ba h
  obtain ⟨h3, h⟩ := He.ba h
  obtain ⟨h4, h⟩ := He.ba h
  obtain ⟨h5, h⟩ := He.ba h
  obtain ⟨h6, h⟩ := He.ba h
  obtain ⟨h7, h8⟩ := He.ba h
  exact ⟨He.eqO_ok h1, He.eqO_ok h2, of_decide_eq_true h3, h4, He.eqO_ok h5, He.eqO_ok h6, of_decide_eq_true h7, of_decide_eq_true h8⟩
def kitB (K : PySem.W.Frag) (x : Str) (v : Value) (b : Bool) : Bool := decide (PySem.W.kitOne K (.ref (He.ga K x)) v = some b)
theorem kitB_ok {K : PySem.W.Frag} {x : Str} {v : Value} {b : Bool} (h : kitB K x v b = true) : PySem.W.kitOne K (.ref (He.ga K x)) v = some b := of_decide_eq_true h
theorem ex_at {l : List Bool} (h : l.all id = true) (i : Nat) {b : Bool} (e : l[i]? = some b := by rfl) : b = true := List.all_eq_true.mp h b (List.mem_of_getElem? e)
def tblOf (l : List (Str × Bool)) : Str → Option Bool := fun d => l.lookup d
theorem tblOf_mem {d : Str} {b : Bool} : ∀ {l : List (Str × Bool)}, tblOf l d = some b → (d, b) ∈ l
  | [], h => nomatch h
  | (x, y) :: l, h => by
    unfold tblOf at h
    rw [List.lookup_cons] at h
    by_cases e : d == x
    · rw [e] at h
      cases h
      rw [eq_of_beq e]
      exact List.mem_cons_self
    · rw [Bool.not_eq_true] at e
      rw [e] at h
      exact List.mem_cons_of_mem _ (tblOf_mem h)
theorem hnd_of {K : PySem.W.Frag} {mg : Str → Option Value} {c : Str} {l : List (Str × Bool)} (h : mg c = some (.ref (He.ga K c))) (hl : ∀ p ∈ l, mg p.1 = some (.ref (He.ga K p.1)) ∧ PySem.W.exmOne K (.ref (He.ga K p.1)) (.ref (He.ga K c)) = some p.2) : Hnd K mg c (tblOf l) := by
  refine ⟨_, h, fun d b D ht hm => ?_⟩
  obtain ⟨h1, h2⟩ := hl _ (tblOf_mem ht)
  rw [h1] at hm
  cases hm
  exact h2
theorem isI_of {K : PySem.W.Frag} {mg : Str → Option Value} {c : Str} {l : List (Str × Bool)} (h : mg c = some (.ref (He.ga K c))) (hl : ∀ p ∈ l, mg p.1 = some (.ref (He.ga K p.1)) ∧ ExcC K (He.ga K p.1) ∧ PySem.W.kitOne K (.ref (He.ga K p.1)) (.ref (He.ga K c)) = some p.2) : IsI K mg c (tblOf l) := by
  refine ⟨_, h, fun d b D ht hm => ?_⟩
  obtain ⟨h1, h2⟩ := hl _ (tblOf_mem ht)
  rw [h1] at hm
  cases hm
  exact h2
theorem isB_of {K : PySem.W.Frag} {mg : Str → Option Value} {T : String} {l : List (Str × Bool)} (hl : ∀ p ∈ l, mg p.1 = some (.ref (He.ga K p.1)) ∧ ExcC K (He.ga K p.1) ∧ PySem.W.kitOne K (.ref (He.ga K p.1)) (.type T) = some p.2) : IsB K mg T (tblOf l) := by
  refine ⟨fun d b D ht hm => ?_⟩
  obtain ⟨h1, h2⟩ := hl _ (tblOf_mem ht)
  rw [h1] at hm
  cases hm
  exact h2
theorem xcl_of {K : PySem.W.Frag} {mg : Str → Option Value} {c : Str} (h : mg c = some (.ref (He.ga K c))) (hc : (He.Fa.exc c).ok K = true) : XCl K mg c := by
  obtain ⟨h1, h2, h3, h4⟩ := He.exc_ok hc
  exact ⟨_, h, h1, h2, h3, h4⟩
section
variable {X : Cx} {W : WX} {x n : Str} {i : Nat} {body suite : List Stmt} {b₀ : Stmt} {np pos pos' : Pos} {sub : Str → Option Bool} {g : SF} {gs : Str → SF}
theorem ds_tryAsH (i : Nat) (hN : X.N.Nodup) (tk : Takes X W) (F : Hnd X.K X.mg x sub)
    (hb : ∀ (W : WX) (pn : List (Addr × Obj)) (xe : Value → Shared → Prop), Takes (X.tr pn xe) W → PassesOwn (model X.prog X.w) X.A X.env xe → DSs (X.tr pn xe) none W body g)
    (hsu : ∀ (a : Addr) (oe : Obj) (dn : Str) (D : Addr) (pn : List (Addr × Obj)), X.mg dn = some (.ref D) → Zc (.ref D) none oe → (∃ vs, oe.data = .fields vs) → DSs (X.suite a ((a, oe) :: pn)) (some (a, i)) W0 (b₀ :: suite) (gs dn))
    (hs : X.stack = X.env :: X.outer := by rfl) (hf : X.env.frame = some X.env.locals := by rfl) (hi : X.N[i]? = some n := by rfl) (hln : X.env.kindOf n = some .local := by rfl) (hg : Gl X x := by rfl) (hdb : (x == ("__debug__" : Str)) = false := by decide) :
    DS X none W (.Try body [.ExceptHandler (some (.Name x np)) (some n) (b₀ :: suite) pos'] [] [] pos) (sTryAs sub i g gs) := by
  obtain ⟨v, h1, h2⟩ := F.ok hg hdb
  exact ds_tryAs hs hf hN hi hln h1 tk h2 hb hsu
theorem ds_tryH (tk : Takes X W) (F : Hnd X.K X.mg x sub)
    (hb : ∀ (W : WX) (pn : List (Addr × Obj)) (xe : Value → Shared → Prop), Takes (X.tr pn xe) W → PassesOwn (model X.prog X.w) X.A X.env xe → DSs (X.tr pn xe) none W body g)
    (hsu : ∀ (a : Addr) (oe : Obj) (dn : Str) (D : Addr) (pn : List (Addr × Obj)), X.mg dn = some (.ref D) → Zc (.ref D) none oe → (∃ vs, oe.data = .fields vs) → DSs (X.suite a ((a, oe) :: pn)) none W0 (b₀ :: suite) (gs dn))
    (hs : X.stack = X.env :: X.outer := by rfl) (hf : X.env.frame = some X.env.locals := by rfl) (hg : Gl X x := by rfl) (hdb : (x == ("__debug__" : Str)) = false := by decide) :
    DS X none W (.Try body [.ExceptHandler (some (.Name x np)) none (b₀ :: suite) pos'] [] [] pos) (sTry sub g gs) := by
  obtain ⟨v, h1, h2⟩ := F.ok hg hdb
  exact ds_try hs hf h1 tk h2 hb hsu
end
/-- an expression of which nothing is told -/
def eNo : EF := fun _ _ => none
theorem de_no {X : Cx} {z : Zx} {W : WX} {e : Expr} : DE X z W e eNo := by
  refine ⟨fun pins s σ H Q I h => ?_⟩
  obtain ⟨p, M, r, o, R, L, e, _⟩ := h
  exact nomatch e
end DI

end

section
set_option Elab.async false
set_option linter.all false
set_option maxRecDepth 100000
set_option maxHeartbeats 4000000
/-! DI10: sorted(..) of ints. -/
namespace DI
open PySem PySem.Spec PyProof.Rows L2
theorem seK_obj {k : Bool} {h : Heap} {l : Addr} {xs : Array Value} (e : SeK k h l xs) : ∃ T o n, (T = "list" ∨ T = "tuple") ∧ h.get? l = some o ∧ o.cls = .type T ∧ o.data = .seq xs n := by
  cases k
  · obtain ⟨o, a, b, n, c⟩ := e
    exact ⟨"list", o, n, .inl rfl, a, b, c⟩
  · obtain ⟨o, a, b, n, c⟩ := e
    exact ⟨"tuple", o, n, .inr rfl, a, b, c⟩
theorem sorted_any {prog : Program} {w : World} {A : Around} {E : Value → Shared → Prop} {s : Shared} {k : Bool} {l : Addr} {vs : List Value} {ltv : Value → Value → Bool} {Q : Value → Shared → Prop} (O : SrtO.Swo ltv) (hl : SeK k s.heap l vs.toArray) (hz : vs.length ≤ sizeLine)
    (hS : 2 ≤ vs.length → ∀ (h₁ : Heap) (a : Addr), SrtO.SortableO prog w A.in1.in1 { s with heap := h₁ } a vs ltv)
    (h : ∀ (h' : Heap) (out : List Value), (∀ b o, s.heap.get? b = some o → h'.get? b = some o) → SrtO.Srtd ltv out → SrtO.Stb ltv out vs → Q (.ref h'.objs.size) { s with heap := sortedHeap (h'.push (seqObj "list" vs.toArray 0)) h'.objs.size vs out.toArray }) :
    wpAny (model prog w) A (call (.builtin "sorted") [.ref l]) Q E s := by
  obtain ⟨T, o, n, hT, ho, hc, hd⟩ := seK_obj hl
  refine Calls.call_function_entry kind_sorted plain_sorted entry_sorted (args_sorted1 _) ?_
  unfold Builtin.«sorted»
  refine wpAny_bind (m := checkCount "sorted" 1 1 _) (wpAny_pure ?_)
  refine wpAny_bind (wpAny_collect_seq l hT ho hc hd (fun h' keep => ?_) (by rw [List.size_toArray]; exact hz))
  have hoL : (h'.push (seqObj "list" vs.toArray 0)).get? h'.objs.size = some (seqObj "list" vs.toArray 0) := Heap.get?_push_size _ rfl
  refine wpAny_bind (wpAny_newList ?_ hz)
  show wpAny _ _ _ _ _ { s with heap := h'.push (seqObj "list" vs.toArray 0) }
  refine wpAny_bind (wpAny_holding (wpAny_call_entry slot_list_sort ⟨_, hoL, rfl⟩ entry_list_sort (SrtO.list_sort_ord O hoL hz (fun h2 => hS h2 _ _) fun out hs hb => ⟨_, rfl, ?_⟩) (args_list_sort _)))
  exact wpAny_pure ⟨_, rfl, h h' out keep hs hb⟩
def rSorted1 (K : PySem.W.Frag) : List V → Hp → VK → Prop := fun vs H Q => ∃ (k : Bool) (a : Addr) (ns : List Int), vs = [V.ref a] ∧ SqK K k H a (ns.map V.int) ∧ ns.length ≤ 16777216 ∧
  ∀ (ns' : List Int) (p : Addr), ns'.Perm ns → ns'.Pairwise (· ≤ ·) → H p = none → Q (.ref p) (upd H p (.lst (ns'.map V.int)))
theorem cr_sorted1 {X : Cx} : CallR X (.builtin "sorted") (rSorted1 X.K) := by
  intro pins s σ H vs us Q I r h
  obtain ⟨k, a, ns, rfl, hs, hz, q⟩ := h
  obtain ⟨⟨its, rv, hl⟩, la, _⟩ := sqK I hs
  rw [Vals.ref1 r]
  have hi := rv.ints
  have hlen : its.length ≤ sizeLine := by rw [← rv.length, List.length_map]; exact line_eq hz
  refine sorted_any SrtO.swo_int hl hlen (fun h2 h₁ a' => SrtO.ints_sortable hi h2) fun h' out keep h1 h2 => ?_
  obtain ⟨k1, k2, k3⟩ := SrtO.ints_out hi h1 h2
  have hn : s.heap.get? h'.objs.size = none := by
    cases e : s.heap.get? h'.objs.size with
    | none => rfl
    | some o => exact absurd (Heap.lt_size (keep _ _ e)) (Nat.lt_irrefl _)
  have hH : H h'.objs.size = none := I.hok.gone hn
  have hoL : (h'.push (seqObj "list" its.toArray 0)).get? h'.objs.size = some (seqObj "list" its.toArray 0) := Heap.get?_push_size _ rfl
  obtain ⟨ep, he'⟩ := sortedHeap_at (out := out.toArray) hoL
  have kp : ∀ b u, s.heap.get? b = some u → (sortedHeap (h'.push (seqObj "list" its.toArray 0)) h'.objs.size its out.toArray).get? b = some u := fun b u e => by
    have hb : @LT.lt Nat _ b h'.objs.size := Heap.lt_size (keep _ _ e)
    rw [sortedHeap_old (a_ne (.inl hb)) (by show @LT.lt Nat _ b (h'.push _).objs.size; rw [Heap.size_push]; omega)]
    exact Heap.get?_push_of_some _ (keep _ _ e)
  have hl2 : ((out.map SrtO.iv).map V.int).length ≤ sizeLine := by
    rw [List.length_map, k2.length_eq]
    exact line_eq hz
  exact ⟨.ref _, upd H h'.objs.size (.lst ((out.map SrtO.iv).map V.int)), I.laidN (t' := s.toks) kp hn hH ⟨hl2, out, ep, vals_of_ints k1, he'⟩, rfl, q _ _ k2 k3 hH⟩
/-- ascending -/
def sortI (ns : List Int) : List Int := ns.mergeSort fun a b => decide (a ≤ b)
theorem sortI_perm (ns : List Int) : (sortI ns).Perm ns := List.mergeSort_perm _ _
theorem sortI_pair (ns : List Int) : (sortI ns).Pairwise (· ≤ ·) := by
  have := List.pairwise_mergeSort (le := fun a b : Int => decide (a ≤ b)) (fun a b c h1 h2 => by simp at *; omega) (fun a b => by simp; omega) ns
  exact this.imp fun h => by simpa using h
theorem sort_uniq : ∀ {xs ys : List Int}, xs.Perm ys → xs.Pairwise (· ≤ ·) → ys.Pairwise (· ≤ ·) → xs = ys
  | [], ys, h, _, _ => (List.Perm.nil_eq h).symm ▸ rfl
  | x :: xs, [], h, _, _ => absurd h.length_eq (by simp)
  | x :: xs, y :: ys, h, h1, h2 => by
    rw [List.pairwise_cons] at h1 h2
    have e : x = y := by
      have m1 : x ∈ y :: ys := h.mem_iff.mp List.mem_cons_self
      have m2 : y ∈ x :: xs := h.mem_iff.mpr List.mem_cons_self
      rcases List.mem_cons.mp m1 with q | q
      · exact q
      · rcases List.mem_cons.mp m2 with q2 | q2
        · exact q2.symm
        · have := h2.1 x q
          have := h1.1 y q2
          omega
    subst e
    rw [sort_uniq (List.Perm.cons_inv h) h1.2 h2.2]
def sortedG : D → Hd → Option (Rs D) := fun d M => match sqD d M with
  | some (ds, _) => (match ds.mapM intOf with
    | some ns => if ns.length ≤ 16777216 then some (.ok (.ref M.length) (M ++ [.lst ((sortI ns).map D.int)])) else none
    | _ => Option.none)
  | _ => Option.none
theorem reps_of_ints {K : PySem.W.Frag} {p : List Addr} {H : Hp} : ∀ (ns : List Int), Reps K p H (ns.map D.int) (ns.map V.int)
  | [] => reps_nil
  | n :: ns => reps_cons rep_int (reps_of_ints ns)
theorem de_sorted {X : Cx} {z : Zx} {W : WX} {e : Expr} {f : EF} {pos p' : Pos} (ha : DE X z W e f) (hm : X.mg "sorted" = Option.none) (hg : Gl X "sorted" := by rfl) (he : starEach [e] X.env = (false, eval e X.env) :: starEach [] X.env := by rfl) : DE X z W (.Call (.Name "sorted" p') [e] [] pos) (eUn sortedG f) := by
  refine (pe_callB cr_sorted1 hg hm PyProof.Rows.boot_sorted (pa_cons ha pa_nil he) (he := he)).imp ?_
  rintro σ H Q ⟨p, M, ρ, o, R, L, e, po⟩
  refine gE_bnd R L e po fun d M1 p1 H1 v R1 L1 hl1 hp1 q1 e1 po1 => ?_
  unfold sortedG at e1
  split at e1
  · rename_i ds g hd
    split at e1
    · rename_i ns hn
      split at e1
      · rename_i hl
        cases e1
        obtain ⟨a, b, rfl, s1, k1⟩ := sq_of R1 q1 hd
        obtain ⟨vs, r, s⟩ := k1 p1 M1 H1 (List.prefix_refl _) (Le.refl _) R1 s1
        have := reps_ints r hn
        subst this
        refine ⟨b, a, ns, rfl, s, hl, fun ns' q hp hs hq => ?_⟩
        rw [sort_uniq (hp.trans (sortI_perm ns).symm) hs (sortI_pair ns)]
        exact po_lst R1 po1 (reps_of_ints _) q hq
      · cases e1
    · cases e1
  · cases e1
end DI

end

section
set_option Elab.async false
set_option linter.all false
set_option maxRecDepth 100000
set_option maxHeartbeats 4000000
/-! DI11: range(a, b, -1). -/
namespace DI
open PySem PySem.Spec PyProof.Rows L2
def downD (lo : Int) (n : Nat) : List D := (List.range n).map fun (i : Nat) => D.int (lo + (i : Int) * (-1))
noncomputable def rngD (f g h : EF) : IF := fun r M => bnd (f r M) fun d M1 => bnd (g r M1) fun e M2 => bnd (h r M2) fun c M3 => match d, e, c with
  | .int a, .int b, .int (-1) => if Sm a ∧ Sm b then some (.ok (downD a (a - b).toNat, []) M3) else none
  | _, _, _ => none
section
variable {X : Cx} {z : Zx} {W : WX} {a b c e tg : Expr} {fa fb fc f : EF} {pos : Pos}
theorem itc_ok {k : Kx} {p : List Addr} {H : Hp} {lo : Int} {n : Nat} : ItOk k p H (downD lo n, []) (Itc lo (-1) n) := by
  intro i p' M' H' hp hl R S
  refine ⟨fun d e => ?_, fun e => ?_⟩
  · unfold downD at e
    dsimp only at e
    rw [List.getElem?_map] at e
    by_cases hi : i < n
    · rw [List.getElem?_range hi] at e
      cases e
      refine ⟨hi, fun v H2 y => ?_⟩
      obtain ⟨rfl, rfl⟩ := y
      exact ⟨Le.refl _, R, rep_int⟩
    · rw [List.getElem?_eq_none (by simpa using hi)] at e
      cases e
  · have e : i = (downD lo n).length := e
    unfold downD at e
    rw [List.length_map, List.length_range] at e
    exact Nat.le_of_eq e.symm
theorem di_rngD {p' : Pos} (ha : DE X z W a fa) (hb : DE X z W b fb) (hc : DE X z W c fc) (hm : X.mg "range" = none) (hg : Gl X "range" := by rfl) (hs : starEach [a, b, c] X.env = (false, eval a X.env) :: starEach [b, c] X.env := by rfl)
    (hs2 : starEach [b, c] X.env = (false, eval b X.env) :: starEach [c] X.env := by rfl) (hs3 : starEach [c] X.env = (false, eval c X.env) :: starEach [] X.env := by rfl) (hpl : (backTo pos (starEach [b, c] X.env)).any (·.1) = false := by rfl) :
    DI_ X z W tg (.Call (.Name "range" p') [a, b, c] [] pos) (rngD fa fb fc) := by
  refine (pi_range3 hg hm (pa_cons ha (pa_cons hb (pa_cons hc pa_nil hs3) hs2) hs) hs hpl).imp ?_
  rintro σ H Q ⟨p, M, ρ, o, R, L, e, po⟩
  refine gE_bnd R L e po fun d M1 p1 H1 v R1 L1 hl1 hp1 q1 e1 po1 => ?_
  refine gE_bnd R1 L1 e1 po1 fun d2 M2 p2 H2 v2 R2 L2 hl2 hp2 q2 e2 po2 => ?_
  refine gE_bnd R2 L2 e2 po2 fun d3 M3 p3 H3 v3 R3 L3 hl3 hp3 q3 e3 po3 => ?_
  split at e3
  · rename_i x y
    split at e3
    · rename_i hsm
      cases e3
      unfold Rep at q1 q2 q3
      subst q1 q2 q3
      exact ⟨x, y, -1, _, rfl, RgC.neg hsm.1.1 hsm.1.2 hsm.2.1 hsm.2.2, po3.ok R3 itc_ok⟩
    · cases e3
  · cases e3
end
end DI

end

section
set_option Elab.async false
set_option linter.all false
set_option maxRecDepth 100000
set_option maxHeartbeats 4000000
/-! DI12: a module's dict of text keys asked by get; in and not in of flat items. -/
namespace DI
open PySem PySem.Spec PyProof.Rows L2

/-- the head's facts, tables with text keys, one test more -/
def hookR (n : Nat) (fa : List He.Fa) (fn : List He.DefD) (ts : List He.Tab) (ex : PySem.W.Frag → Bool) : PySem.W.Hook where
  α := He.AlT × Bool
  obs := fun s => (He.obsT fa fn ts (He.frG s.heap.get? (He.asD s.heap.get? n)), ex (He.frG s.heap.get? (He.asD s.heap.get? n)))
  val := fun w => (He.valT fn ts w, true)
  says := fun w h => ∃ K : PySem.W.Frag, K.In h ∧ He.SaysT fa fn ts w K ∧ ex K = true
  of := fun _ _ e => ⟨_, He.frG_in, congrArg Prod.fst e, congrArg Prod.snd e⟩
  keeps := fun _ _ _ ⟨K, hK, c⟩ k => ⟨K, PySem.W.Frag.In.keeps hK k, c⟩
def obR (n : Nat) (fa : List He.Fa) (fn : List He.DefD) (ts : List He.Tab) (ex : PySem.W.Frag → Bool) (g : Addr → Option Obj) : He.AlT × Bool := (He.obsT fa fn ts (He.frG g (He.asD g n)), ex (He.frG g (He.asD g n)))
theorem obR_eq {n : Nat} {fa : List He.Fa} {fn : List He.DefD} {ts : List He.Tab} {ex : PySem.W.Frag → Bool} {g : Addr → Option Obj} {s : Shared} (h : ∀ a, g a = s.heap.get? a) : obR n fa fn ts ex g = (hookR n fa fn ts ex).obs s := by
  have e : g = s.heap.get? := funext h
  rw [e]
  rfl
theorem dicW_keys {K : PySem.W.Frag} {P : Params} {a : Addr} {ks : List Str} {es : Array DictEntry} {n : Nat} (h : He.dicW K a = some (He.keysIn P ks)) (hl : K.lookup a = some ⟨.type "dict", none, .dict es n, #[]⟩) : es.toList.map He.keyOf = He.keysIn P ks := by
  unfold He.dicW at h
  rw [hl] at h
  dsimp only at h
  split at h
  · exact Option.some.inj h
  · cases h
theorem tab_at {fa : List He.Fa} {fn : List He.DefD} {ts : List He.Tab} {w : World} {K : PySem.W.Frag} (c : He.SaysT fa fn ts w K) (i : Nat) {t : He.Tab} (h : ts[i]? = some t := by rfl) : He.dicW K (t.1 K) = some (He.keysIn w.params t.2) := by
  have e : ts.map (fun t => He.dicW K (t.1 K)) = ts.map fun t => some (He.keysIn w.params t.2) := congrArg (fun z : He.AlT => z.2) c
  have e2 : (ts.map fun t => He.dicW K (t.1 K))[i]? = (ts.map fun t => some (He.keysIn w.params t.2))[i]? := by rw [e]
  rw [List.getElem?_map, List.getElem?_map, h] at e2
  exact Option.some.inj e2
theorem find_none {P : Params} {z : Str} : ∀ {l : List DictEntry} {ks : List Str}, l.map He.keyOf = He.keysIn P ks → z ∉ ks → l.find? (·.key.isStr z) = none ∧ l.any (·.refKey) = false
  | [], _, _, _ => ⟨rfl, rfl⟩
  | e :: r, [], h, _ => by cases h
  | e :: r, k :: ks, h, hz => by
    have h1 : He.keyOf e :: r.map He.keyOf = some (k, PyData.keyHash P k) :: He.keysIn P ks := h
    injection h1 with h2 h3
    obtain ⟨i1, i2⟩ := find_none h3 fun q => hz (List.mem_cons_of_mem _ q)
    unfold He.keyOf at h2
    split at h2
    · rename_i x t q
      have h4 := Option.some.inj h2
      obtain ⟨h5, h6⟩ := Prod.mk.inj h4
      subst h5
      have hn : e.key.isStr z = false := by
        rw [q]
        exact beq_eq_false_iff_ne.mpr fun hh => hz (by rw [hh]; exact List.mem_cons_self)
      have hr : e.refKey = false := by unfold DictEntry.refKey; rw [q]
      exact ⟨by rw [List.find?_cons, hn]; exact i1, by rw [List.any_cons, hr]; exact i2⟩
    · cases h2
/-- a module's dict: text keys, ints -/
structure Tbl (K : PySem.W.Frag) (w : World) (mg : Str → Option Value) (x : Str) (kvs : List (Str × Int)) : Prop where
  ex : ∃ a es n, mg x = some (.ref a) ∧ KDict K w a es n ∧ ∀ z, match kvs.lookup z with
    | some i => ∃ u, PySem.W.nsIn K a z = some (some u) ∧ RelV (.int i) u
    | none => PySem.W.nsIn K a z = some none
def intsB (K : PySem.W.Frag) (a : Addr) (kvs : List (Str × Int)) : Bool := kvs.all fun q => match PySem.W.nsIn K a q.1 with
  | some (some (.int i _)) => i == q.2
  | _ => false
theorem intsB_ok {K : PySem.W.Frag} {a : Addr} {kvs : List (Str × Int)} (h : intsB K a kvs = true) {q : Str × Int} (hq : q ∈ kvs) : ∃ u, PySem.W.nsIn K a q.1 = some (some u) ∧ RelV (.int q.2) u := by
  have h2 := List.all_eq_true.mp h q hq
  split at h2
  · rename_i i t e
    refine ⟨_, e, t, ?_⟩
    rw [eq_of_beq h2]
  · cases h2
theorem lookup_mem' {z : Str} {i : Int} : ∀ {l : List (Str × Int)}, l.lookup z = some i → (z, i) ∈ l
  | [], h => nomatch h
  | (x, y) :: l, h => by
    rw [List.lookup_cons] at h
    by_cases e : z == x
    · rw [e] at h
      cases h
      rw [eq_of_beq e]
      exact List.mem_cons_self
    · rw [Bool.not_eq_true] at e
      rw [e] at h
      exact List.mem_cons_of_mem _ (lookup_mem' h)
theorem lookup_none' {z : Str} : ∀ {l : List (Str × Int)}, l.lookup z = none → z ∉ l.map (·.1)
  | [], _ => by simp
  | (x, y) :: l, h => by
    rw [List.lookup_cons] at h
    by_cases e : z == x
    · rw [e] at h; cases h
    · rw [Bool.not_eq_true] at e
      rw [e] at h
      rw [List.map_cons, List.mem_cons]
      rintro (q | q)
      · rw [q] at e; simp at e
      · exact lookup_none' h q
theorem tbl_of {K : PySem.W.Frag} {w : World} {mg : Str → Option Value} {x : Str} {kvs : List (Str × Int)} (h : mg x = some (.ref (He.ga K x))) (hd : He.dicW K (He.ga K x) = some (He.keysIn w.params (kvs.map (·.1)))) (hv : intsB K (He.ga K x) kvs = true) : Tbl K w mg x kvs := by
  obtain ⟨es, n, D⟩ := He.dicW_ok hd
  refine ⟨_, es, n, h, D, fun z => ?_⟩
  cases e : kvs.lookup z with
  | some i => exact intsB_ok hv (lookup_mem' e)
  | none =>
    obtain ⟨f1, f2⟩ := find_none (z := z) (dicW_keys hd D.at_) (lookup_none' e)
    show PySem.W.nsIn K (He.ga K x) z = some none
    unfold PySem.W.nsIn
    rw [D.at_]
    dsimp only
    rw [f1, f2]
    rfl
def getC (kvs : List (Str × Int)) (fa : EF) : EF := fun r M => bnd (fa r M) fun x M1 => match x with
  | .str z => some (.ok (match kvs.lookup z with
    | some i => .int i
    | none => .non) M1)
  | _ => none
theorem de_getC {X : Cx} {z : Zx} {W : WX} {e : Expr} {fa : EF} {x : Str} {kvs : List (Str × Int)} {np apos cpos : Pos} (T : Tbl X.K X.w X.mg x kvs) (ha : DE X z W e fa) (hg : Gl X x := by rfl) (hdb : (x == ("__debug__" : Str)) = false := by decide) (m : M1 X (.Name x np) "get" apos e cpos := by exact ⟨rfl, rfl, rfl, rfl⟩) :
    DE X z W (.Call (.Attribute (.Name x np) "get" apos) [e] [] cpos) (getC kvs fa) := by
  obtain ⟨a, es, n, h1, Dk, h2⟩ := T.ex
  refine ⟨fun pins s σ H Q I h => ?_⟩
  obtain ⟨p, M, r, o, R, L, ee, po⟩ := h
  refine wpAny_Call_method m.base m.few m.line PySem.F.plainAttrs_dict PySem.F.slot_dict_get PySem.F.type_dict_get (thn ((pe_glob (v := .ref a) hg h1 rfl hdb).run pins s σ H (fun v H1 => v = .ref a ∧ H1 = H) I ⟨rfl, rfl⟩) fun u s1 ⟨x1, H1, I1, rx, ex, eh⟩ => ?_)
  subst ex
  subst eh
  obtain rfl : u = Value.ref a := rx
  refine ⟨kd_type Dk I1, fun b hb => ?_, ?_⟩
  · cases hb
    exact ⟨_, I1.kIn _ _ Dk.at_, rfl⟩
  rw [m.trees]
  refine Calls.callWith_builtin rfl (Calls.evalArgs_plain (Calls.spliced_cons (thn (ha.run pins s1 σ H1 (fun y H2 => ∃ z0 v0, y = .str z0 ∧ (match kvs.lookup z0 with | some i => v0 = V.int i | none => v0 = V.non) ∧ Q v0 H2) I1 ?_) fun iv s2 ⟨y, H2, I2, ry, z0, v0, ey, hv, q2⟩ => Calls.spliced_nil ?_)))
  · refine gE_bnd R L ee po fun d M1 p1 H2 v R1 L1 hl1 hp1 q1 e1 po1 => ?_
    cases d with
    | str z0 =>
      unfold Rep at q1
      subst q1
      dsimp only at e1
      cases e1
      cases hk : kvs.lookup z0 with
      | some i => 
        rw [hk] at po1
        exact ⟨z0, .int i, rfl, by rw [hk], po1.ok R1 rep_int⟩
      | none => 
        rw [hk] at po1
        exact ⟨z0, .non, rfl, by rw [hk], po1.ok R1 rep_non⟩
    | _ => cases e1
  subst ey
  obtain ⟨t, rfl⟩ := ry
  refine call_meetsIn PySem.F.slot_dict_get (kd_type Dk I2) PySem.F.entry_dict_get (PySem.F.args_dict_get_2 _ _) (meets_dict_get (strKind X.prog X.w) a (PySem.strKind_is X.prog X.w z0 t) Dk.low) ⟨_, PySem.W.mapOf_K (prog := X.prog) I2.kIn Dk.at_ Dk.lit, ?_⟩
  have hz := h2 z0
  cases hk : kvs.lookup z0 with
  | some i =>
    rw [hk] at hz hv
    obtain ⟨u0, n1, n2⟩ := hz
    subst hv
    rw [PySem.W.find_K Dk.at_ n1]
    exact ⟨_, H2, I2.tok _, n2, q2⟩
  | none =>
    rw [hk] at hz hv
    subst hv
    rw [PySem.W.find_K Dk.at_ hz]
    exact ⟨V.non, H2, I2.tok _, (rfl : Value.none = Value.none), q2⟩

/-! ### in, not in of flat items -/
def D.flat : D → Bool
  | .non => true
  | .bl _ => true
  | .int _ => true
  | .str _ => true
  | _ => false
def eqF : D → D → Bool
  | .non, .non => true
  | .bl a, .bl b => a == b
  | .bl a, .int b => (if a then 1 else 0) == b
  | .int a, .bl b => a == (if b then 1 else 0)
  | .int a, .int b => a == b
  | .str a, .str b => a == b
  | _, _ => false
theorem rep_flat {K : PySem.W.Frag} {p : List Addr} {H : Hp} {d : D} {v : V} (h : Rep K p H d v) (f : d.flat = true) : flatV v = true := by
  cases d <;> first | (cases f; done) | (unfold Rep at h; subst h; rfl)
theorem rep_eqF {K : PySem.W.Frag} {p : List Addr} {H : Hp} {d e : D} {v u : V} (h : Rep K p H d v) (k : Rep K p H e u) (f : d.flat = true) (g : e.flat = true) : eqV v u = eqF d e := by
  cases d <;> first | (cases f; done) | (unfold Rep at h; subst h; cases e <;> first | (cases g; done) | (unfold Rep at k; subst k; rfl))
theorem reps_flat {K : PySem.W.Frag} {p : List Addr} {H : Hp} : ∀ {ds : List D} {vs : List V}, Reps K p H ds vs → ds.all D.flat = true → vs.all flatV = true
  | [], vs, h, _ => by unfold Reps at h; subst h; rfl
  | d :: ds, vs, h, f => by
    unfold Reps at h
    obtain ⟨v, ws, rfl, h1, h2⟩ := h
    rw [List.all_cons, Bool.and_eq_true] at f ⊢
    exact ⟨rep_flat h1 f.1, reps_flat h2 f.2⟩
theorem reps_inV {K : PySem.W.Frag} {p : List Addr} {H : Hp} {e : D} {u : V} (k : Rep K p H e u) (g : e.flat = true) : ∀ {ds : List D} {vs : List V}, Reps K p H ds vs → ds.all D.flat = true → inV u vs = ds.any fun y => eqF y e
  | [], vs, h, _ => by unfold Reps at h; subst h; rfl
  | d :: ds, vs, h, f => by
    unfold Reps at h
    obtain ⟨v, ws, rfl, h1, h2⟩ := h
    rw [List.all_cons, Bool.and_eq_true] at f
    have ih := reps_inV k g h2 f.2
    unfold inV at ih ⊢
    rw [List.any_cons, List.any_cons, ih, rep_eqF h1 k f.1 g]
def inG (neg : Bool) : G2 := fun x y M => match itemsD y M with
  | some ds => if x.flat && ds.all D.flat then some (.ok (.bl (if neg then !(ds.any fun z => eqF z x) else ds.any fun z => eqF z x)) M) else none
  | none => none
theorem od_in {k : Kx} {neg : Bool} : OD k (rIn k.K neg) (inG neg) := by
  intro p M H x y v u o Q W σ R rx ry e po
  unfold inG at e
  split at e
  · rename_i ds hi
    split at e
    · rename_i hf
      rw [Bool.and_eq_true] at hf
      cases e
      obtain ⟨a, vs, rfl, h1, h2⟩ := rep_items R ry hi
      refine ⟨a, vs, rfl, h1, rep_flat rx hf.1, reps_flat h2 hf.2, ?_⟩
      rw [reps_inV rx hf.1 h2 hf.2]
      exact po.ok R rep_bl
    · cases e
  · cases e
end DI

end

section
set_option Elab.async false
set_option linter.all false
set_option maxRecDepth 100000
set_option maxHeartbeats 4000000
/-! DI13: isinstance of the exception that is held, asked of a written tuple of own classes. -/
namespace DI
open PySem PySem.Spec PyProof.Rows L2
def tRefs (Cs : List Addr) : TA := fun _ H Q => Q (Cs.map V.ref) H
structure IsT (K : PySem.W.Frag) (mg : Str → Option Value) (cs : List Str) (tbl : Str → Option Bool) : Prop where
  gl : ∀ (i : Nat) c, cs[i]? = some c → mg c = some (.ref (He.ga K c))
  ex : ∀ d b D, tbl d = some b → mg d = some (.ref D) → ExcC K D ∧ PySem.W.kitAny K (.ref D) (cs.map fun c => .ref (He.ga K c)) = some b
section
variable {X : Cx} {es : List Expr} {c : Str} {C : Addr} {Cs : List Addr} {p : Pos}
theorem pr_nil : PA X [] (tRefs []) := ⟨fun pos pins s σ H Q I h => pa_nil.run pos pins s σ H Q I h⟩
theorem pr_cons (h : X.mg c = some (.ref C)) (r : PA X es (tRefs Cs)) (hg : Gl X c := by rfl) (hdb : (c == ("__debug__" : Str)) = false := by decide) (hs : starEach (.Name c p :: es) X.env = (false, eval (.Name c p) X.env) :: starEach es X.env := by rfl) : PA X (.Name c p :: es) (tRefs (C :: Cs)) :=
  (pa_cons (pe_glob (v := .ref C) hg h rfl hdb) r hs).imp fun σ H Q q => q
end
def rIsT (K : PySem.W.Frag) (D a : Addr) : List V → Hp → VK → Prop := fun xs H Q => ∃ (tp : Addr) (Cs : List Addr) (b : Bool), xs = [.ref a, .ref tp] ∧ SqT K H tp (Cs.map V.ref) ∧ PySem.W.kitAny K (.ref D) (Cs.map Value.ref) = some b ∧ Q (.bl b) H
theorem vals_refs : ∀ {Cs : List Addr} {its : List Value}, Vals (Cs.map V.ref) its → its = Cs.map Value.ref
  | [], its, h => by cases h; rfl
  | C :: Cs, its, h => by
    cases h with
    | cons r rr =>
      cases (show _ = Value.ref C from r)
      rw [List.map_cons, vals_refs rr]
theorem call_isT {X : Cx} {a D : Addr} {oe : Obj} {pn : List (Addr × Obj)} (C : ExcC X.K D) (hz : Zc (.ref D) none oe) (hf : ∃ vs, oe.data = .fields vs) : CallR (X.suite a ((a, oe) :: pn)) (.builtin "isinstance") (rIsT X.K D a) := by
  intro pins s σ H xs us Q I r h
  obtain ⟨tp, Cs, b, rfl, hq, e, q⟩ := h
  cases r with
  | cons rx rr =>
    cases rr with
    | cons rt rr =>
      cases rr
      cases rx
      cases rt
      obtain ⟨hget, _⟩ := I.pin (a, oe) (List.mem_append.mpr (.inl List.mem_cons_self))
      obtain ⟨vs, hv⟩ := hf
      have J : PySem.W.InstAt s.heap a oe D none := by
        obtain ⟨oc, od, oda, osl⟩ := oe
        obtain ⟨h1, h2⟩ := hz
        dsimp only at h1 h2 hv
        subst h1 h2 hv
        exact ⟨hget, rfl, rfl, trivial⟩
      obtain ⟨its, rv, ⟨o, h1, h2, n, h3⟩, _⟩ := I.tuple hq
      have hi := vals_refs rv
      subst hi
      obtain ⟨oc, od, oda, osl⟩ := o
      dsimp only at h2 h3
      subst h2 h3
      exact PySem.W.kia_tup (PySem.W.handS_kitx_exc C.hg C.hk C.hs C.hd C.ha C.hn C.ht C.hm) I.kIn J h1 e (fun z => nomatch z) fun tk => ⟨.bl b, H, I.kept (t' := tk) fun _ _ z => z, rfl, q⟩
section
variable {X : Cx} {a D : Addr} {oe : Obj} {pn : List (Addr × Obj)} {dn n : Str} {i : Nat} {cs : List Str} {es : List Expr} {tbl : Str → Option Bool} {p' p1 p2 pos : Pos} {W : WX} {x1 : Nat}
theorem de_isT (F : IsT X.K X.mg cs tbl) (hm : X.mg dn = some (.ref D)) (hz : Zc (.ref D) none oe) (hf : ∃ vs, oe.data = .fields vs) (hmi : X.mg "isinstance" = none) (hcl : cs.length ≤ 1000) (hp : PA (X.suite a ((a, oe) :: pn)) es (tRefs (cs.map (He.ga X.K)))) (hg : Gl X "isinstance" := by rfl)
    (hN : X.N[i]? = some n := by rfl) (hv : Vis X.env.scope n := by first | exact Or.inl rfl | exact Or.inr (Or.inl rfl) | exact Or.inr (Or.inr rfl)) (hd1 : (n == ("__debug__" : Str)) = false := by decide) (hd2 : (n == ("__classdict__" : Str)) = false := by decide)
    (he : starEach [.Name n p1, .Tuple es x1 p2] X.env = (false, eval (.Name n p1) X.env) :: starEach [.Tuple es x1 p2] X.env := by rfl) (hpl : (backTo pos (starEach [.Tuple es x1 p2] X.env)).any (·.1) = false := by rfl) (he2 : starEach [.Tuple es x1 p2] X.env = (false, eval (.Tuple es x1 p2) X.env) :: starEach [] X.env := by rfl) :
    DE (X.suite a ((a, oe) :: pn)) (some (a, i)) W (.Call (.Name "isinstance" p') [.Name n p1, .Tuple es x1 p2] [] pos) (eIsE i (tbl dn)) := by
  have nv : PE (X.suite a ((a, oe) :: pn)) (.Name n p1) _ := pe_var (i := i) hN hv hd1 hd2
  have cv : PE (X.suite a ((a, oe) :: pn)) (.Tuple es x1 p2) _ := pe_tup hp
  cases ht : tbl dn with
  | none =>
    refine ⟨fun pins s σ H Q I h => ?_⟩
    obtain ⟨q, M, r, o, R, L, e, po⟩ := h
    unfold eIsE at e
    split at e <;> cases e
  | some b =>
    obtain ⟨ec, kt⟩ := F.ex dn b D ht hm
    refine (pe_callB (X := X.suite a ((a, oe) :: pn)) (call_isT ec hz hf) hg hmi PyProof.Rows.boot_isinstance (pa_cons nv (pa_cons cv pa_nil he2) he) (he := he) (hpl := hpl)).imp ?_
    rintro σ H Q ⟨q, M, r, o, R, L, e, po⟩
    unfold eIsE at e
    split at e
    · rename_i hr
      cases e
      refine ⟨.ref a, L.ex a i rfl hr, ?_, fun tp htp => ⟨tp, cs.map (He.ga X.K), b, rfl, ?_, ?_, ?_⟩⟩
      · rw [List.length_map, List.length_map]
        exact line_eq (by omega)
      · exact SqT.of upd_same
      · rw [List.map_map]
        exact kt
      · exact po q _ _ (List.prefix_refl q) (Le.new htp) (R.other htp) rep_bl
    · cases e
end
/-! ### the head's part -/
def kitT (K : PySem.W.Frag) (x : Str) (cs : List Str) (b : Bool) : Bool := decide (PySem.W.kitAny K (.ref (He.ga K x)) (cs.map fun c => .ref (He.ga K c)) = some b)
theorem kitT_ok {K : PySem.W.Frag} {x : Str} {cs : List Str} {b : Bool} (h : kitT K x cs b = true) : PySem.W.kitAny K (.ref (He.ga K x)) (cs.map fun c => .ref (He.ga K c)) = some b := of_decide_eq_true h
theorem isT_of {K : PySem.W.Frag} {mg : Str → Option Value} {cs : List Str} {l : List (Str × Bool)} (h : ∀ c ∈ cs, mg c = some (.ref (He.ga K c))) (hl : ∀ p ∈ l, mg p.1 = some (.ref (He.ga K p.1)) ∧ ExcC K (He.ga K p.1) ∧ PySem.W.kitAny K (.ref (He.ga K p.1)) (cs.map fun c => .ref (He.ga K c)) = some p.2) : IsT K mg cs (tblOf l) := by
  refine ⟨fun i c e => h c (List.mem_of_getElem? e), fun d b D ht hm => ?_⟩
  obtain ⟨h1, h2⟩ := hl _ (tblOf_mem ht)
  rw [h1] at hm
  cases hm
  exact h2
end DI

end

section
set_option Elab.async false
set_option linter.all false
set_option maxRecDepth 100000
set_option maxHeartbeats 4000000
/-! DI14: a list so many times. -/
namespace DI
open PySem PySem.Spec PyProof.Rows L2
def repG : G2 := fun x y M => match x, y with
  | .ref i, .int k => (match M[i]? with
    | some (.lst ds) => if 0 ≤ k ∧ k ≤ 100000 ∧ ds.length * k.toNat ≤ 16777216 then some (.ok (.ref M.length) (M ++ [.lst (List.replicate k.toNat ds).flatten])) else none
    | _ => none)
  | _, _ => none
theorem reps_flat_rep {K : PySem.W.Frag} {p : List Addr} {H : Hp} {ds : List D} {vs : List V} (h : Reps K p H ds vs) : ∀ (n : Nat), Reps K p H (List.replicate n ds).flatten (List.replicate n vs).flatten
  | 0 => reps_nil
  | n + 1 => by
    rw [List.replicate_succ, List.replicate_succ, List.flatten_cons, List.flatten_cons]
    exact reps_app h (reps_flat_rep h n)
theorem od_rep {k : Kx} : OD k rRep repG := by
  intro p M H x y v u o Q W σ R rx ry e po
  unfold repG at e
  split at e
  · rename_i i j
    split at e
    · rename_i ds ho
      split at e
      · rename_i hk
        cases e
        obtain ⟨a, vs, rfl, ha, hh, r0⟩ := rep_lst R rx ho
        unfold Rep at ry
        subst ry
        refine ⟨a, j, vs, rfl, rfl, hh, by omega, by omega, ?_, po_lst R po (reps_flat_rep r0 _)⟩
        rw [← reps_len r0]
        exact line_eq hk.2.2
      · cases e
    · cases e
  · cases e
end DI

end

section
set_option Elab.async false
set_option linter.all false
set_option maxRecDepth 100000
set_option maxHeartbeats 4000000
/-! DI15: a try with several clauses that name the exception, all by one name. -/
namespace DI
open PySem PySem.Spec PyProof.Rows L2

/-- a clause: the class that it names, and what its suite does -/
structure Kl where
  c : Value
  ts : Addr → Value → Option Addr → TS
/-- what stands behind a suite: slot i is empty there -/
def emptied (i : Nat) (D : Ends) : Ends where
  nx := fun σ H => D.nx (σ.set i none) H
  rt := D.rt
  bk := fun σ H => D.bk (σ.set i none) H
  ct := fun σ H => D.ct (σ.set i none) H
/-- the first clause that takes it is the one -/
def picks (K : PySem.W.Frag) (i : Nat) (W : WX) (D : Ends) : List Kl → WX
  | [] => W
  | k :: l => fun cls d σ H =>
    (PySem.W.exmOne K cls k.c = some true ∧ ∀ a, H a = none → k.ts a cls d (emptied i D) (σ.set i (some (.ref a))) H)
    ∨ (PySem.W.exmOne K cls k.c = some false ∧ picks K i W D l cls d σ H)
/-- clauses as they stand in the text -/
inductive Klauses (X : Cx) (n : Str) : List ExceptHandler → List Kl → Prop
  | nil : Klauses X n [] []
  | cons {x : Str} {k : Kl} {b : Stmt} {bs : List Stmt} {p q : Pos} {hds : List ExceptHandler} {l : List Kl} (hc : Names X x k.c)
      (su : ∀ (a : Addr) (oe : Obj) (cls : Value) (d : Option Addr) (pn : List (Addr × Obj)), Zc cls d oe → (∃ vs, oe.data = .fields vs) → PSs (X.suite a ((a, oe) :: pn)) (b :: bs) (k.ts a cls d))
      (more : Klauses X n hds l) : Klauses X n (.ExceptHandler (some (.Name x p)) (some n) (b :: bs) q :: hds) (k :: l)

section
variable {X : Cx} {n : Str} {i : Nat} {W : WX} {D : Ends}
/-- an object with fields is no frame -/
theorem apart {B h : Heap} {l : List Env} {a : Addr} {Z : Obj → Prop} (fl : HandSPX.FlyingZ B l a Z h) : a ∉ frs l := fun hm => by
  obtain ⟨o, vs, e1, _, e2⟩ := fl.there
  obtain ⟨_, o', e3, no⟩ := fl.2.2.1.mem hm
  exact no vs ((Option.some.inj (e3.symm.trans e1)) ▸ e2)
/-- the class's name is read -/
theorem name_read {pins : List (Addr × Obj)} {s : Shared} {σ : L2.St} {H : Hp} {x : Str} {c : Value} {p : Pos} {Q : Value → Shared → Prop} {E : Value → Shared → Prop} (I : Inv X pins σ H s) (hc : Names X x c) (q : Q c s) : wpAny (model X.prog X.w) X.A (eval (.Name x p) X.env) Q E s := by
  rcases hc with ⟨h1, h2, h3 | ⟨h4, h5, h6⟩⟩
  · exact ld_glob I h1 h3 q h2
  · exact ld_blt I h1 h4 h5 q h6 h2
theorem klauses_go (hs : X.stack = X.env :: X.outer) (hf : X.env.frame = some X.env.locals) (hN : X.N.Nodup) (hi : X.N[i]? = some n) (hln : X.env.kindOf n = some .local) (tk : Takes X W)
    {a : Addr} {B : Heap} {s0 : Shared} {pins : List (Addr × Obj)} {σ : L2.St} {H : Hp} {cls : Value} {d : Option Addr}
    (J : Inv X pins σ H s0) (old : ∀ b o, s0.heap.get? b = some o → b ∉ frs X.stack → B.get? b = some o) (na : H a = none) {hds : List ExceptHandler} {l : List Kl} (ks : Klauses X n hds l) :
    ∀ {s : Shared}, HandSPX.FlyingZ B (X.env :: X.outer) a (Zc cls d) s.heap → s0.heap.UpToSlots s.heap → s.os = s0.os → AllBare s.gens → picks X.K i W D l cls d σ H →
      wpAny (model X.prog X.w) X.A (handleBy (.ref a) X.env hds) (SP X pins D) X.xe s := by
  induction ks with
  | nil =>
    intro s fl up os ag w
    refine PySem.PX.no_clauseZ hf fl fun h' held up' => tk _ _ ?_
    refine ⟨a, B, s0, pins, σ, H, cls, d, rfl, J, old, up.trans up', ?_, na, os, ag, w⟩
    rw [hs]
    exact .inr (.inr held)
  | @cons x k b bs p q hds l hc su more ih =>
    intro s fl up os ag w
    have I : Inv X pins σ H s := J.landed old fl.1 up os ag
    have nl : a ≠ X.env.locals := fun e => apart fl (List.mem_filterMap.mpr ⟨_, List.mem_cons_self, e ▸ hf⟩)
    have nf : a ∉ X.fs := fun e => apart fl (List.mem_filterMap.mpr (by
      obtain ⟨v, h1, h2⟩ := List.mem_filterMap.mp e
      exact ⟨v, List.mem_cons_of_mem _ h1, h2⟩))
    have test : ∀ {Q : Value → Shared → Prop} {E : Value → Shared → Prop}, Q k.c s → wpAny (model X.prog X.w) (X.A.mark (some (.ref a))) (eval (.Name x p) X.env) Q E s := fun {Q E} hq => by
      obtain ⟨o, vs, e1, _, e2⟩ := fl.there
      exact name_read (X := X.suite a ((a, o) :: (X.pn ++ pins))) (I.suite e1 e2 na nl nf) hc hq
    rcases w with ⟨yes, w⟩ | ⟨no, w⟩
    · refine PySem.PX.clause_asZ I.kIn (fun o z => z.1) fl yes test fun h' fl' up' => ?_
      obtain ⟨o, vs, e1, z, e2⟩ := PySem.PX.FlyingZ.there fl'
      have I' : Inv X pins σ H { s with heap := h' } := J.landed old fl'.1 (up.trans up') os ag
      refine store_ok (X := X.suite a ((a, o) :: (X.pn ++ pins))) (v := .ref a) (I'.suite e1 e2 na nl nf) hN hi (.inl hln) rfl (fun s1 I1 => ?_) (.inr hln)
      refine wpAny_mono ((su a o cls d (X.pn ++ pins) z ⟨vs, e2⟩).run [] s1 _ H _ I1 (w a na)) ?_ (fun _ _ f => f.elim)
      intro f s2 h2
      cases f with
      | ret u =>
        obtain ⟨v, σ2, H2, I2, r, po⟩ := h2
        exact gone_ok (I2.unsuite J.ok) hN hi hln fun s3 I3 => ⟨v, _, H2, I3, r, po⟩
      | next =>
        obtain ⟨σ2, H2, I2, po⟩ := h2
        exact gone_ok (I2.unsuite J.ok) hN hi hln fun s3 I3 => ⟨_, H2, I3, po⟩
      | brk =>
        obtain ⟨σ2, H2, I2, po⟩ := h2
        exact gone_ok (I2.unsuite J.ok) hN hi hln fun s3 I3 => ⟨_, H2, I3, po⟩
      | cont =>
        obtain ⟨σ2, H2, I2, po⟩ := h2
        exact gone_ok (I2.unsuite J.ok) hN hi hln fun s3 I3 => ⟨_, H2, I3, po⟩
    · exact PySem.PX.clause_passZ I.kIn (fun o z => z.1) fl no test (ih fl up os ag w)
theorem ps_tryN {body : List Stmt} {h₀ : ExceptHandler} {hds : List ExceptHandler} {l : List Kl} {pos : Pos} {tb : WX → TS} (hs : X.stack = X.env :: X.outer) (hf : X.env.frame = some X.env.locals) (hN : X.N.Nodup) (hi : X.N[i]? = some n) (hln : X.env.kindOf n = some .local) (tk : Takes X W)
    (hb : ∀ (W : WX) (pn : List (Addr × Obj)) (xe : Value → Shared → Prop), Takes (X.tr pn xe) W → PassesOwn (model X.prog X.w) X.A X.env xe → PSs (X.tr pn xe) body (tb W))
    (ks : Klauses X n (h₀ :: hds) l) : PS X (.Try body (h₀ :: hds) [] [] pos) (fun D σ H => tb (picks X.K i W D l) D σ H) := by
  constructor
  intro pins s σ H D I h
  refine wpAny_Try_except (wpAny_mono ((hb (picks X.K i W D l) (X.pn ++ pins) _ ?_ PassesOwn.looking).run [] s σ H D (I.toTry _) h) ?_ (fun _ _ e => e))
  · rintro u s1 ⟨a, B, s0, pins1, σ1, H1, cls, d, rfl, J, old, up, sky, na, os, ag, w⟩
    have frames : X.A.frames = some (X.env :: X.outer) := I.ok.frames.trans (congrArg some hs)
    have sky1 : Sky B (X.env :: X.outer) a (Zc cls d) X.env.locals s1.heap := hs ▸ sky
    exact Sky.land Zc.steady frames hf sky1 fun h' fl up' => klauses_go hs hf hN hi hln tk (J.ofTry I.ok) old na ks (s := { s1 with heap := h' }) fl (up.trans up') os ag w
  · intro f s1 h1
    cases f with
    | ret u => exact let ⟨v, σ1, H1, I1, r, po⟩ := h1; ⟨v, σ1, H1, I1.ofTry I.ok, r, po⟩
    | next => exact let ⟨σ1, H1, I1, po⟩ := h1; wpAny_execs_nil ⟨σ1, H1, I1.ofTry I.ok, po⟩
    | brk => exact let ⟨σ1, H1, I1, po⟩ := h1; ⟨σ1, H1, I1.ofTry I.ok, po⟩
    | cont => exact let ⟨σ1, H1, I1, po⟩ := h1; ⟨σ1, H1, I1.ofTry I.ok, po⟩
end
/-! ### the mirror -/
/-- behind a suite: the name is gone -/
def endN (i : Nat) : Option (Fl × Hd) → Option (Fl × Hd)
  | some (.nx r, M) => some (.nx (clr i r), M)
  | some (.bk r, M) => some (.bk (clr i r), M)
  | some (.ct r, M) => some (.ct (clr i r), M)
  | some (.rt d, M) => some (.rt d, M)
  | _ => none
def sHand (i : Nat) : List ((Str → Option Bool) × (Str → SF)) → Str → SF
  | [], c => fun r M => some (.xx c r, M)
  | (sub, su) :: l, c => fun r M => match sub c with
    | some true => endN i (su c (clr i r) M)
    | some false => sHand i l c r M
    | none => none
/-- try: body; except C1 as x: ..; except C2 as x: .. (slot i) -/
def sTryN (i : Nat) (l : List ((Str → Option Bool) × (Str → SF))) (body : SF) : SF := fun r M => match body r M with
  | some (.xx c r1, M1) => sHand i l c r1 M1
  | o => o
inductive HdN (X : Cx) (n : Str) (i : Nat) : List ExceptHandler → List ((Str → Option Bool) × (Str → SF)) → Prop
  | nil : HdN X n i [] []
  | cons {x : Str} {sub : Str → Option Bool} {gs : Str → SF} {b : Stmt} {bs : List Stmt} {p q : Pos} {hds : List ExceptHandler} {l : List ((Str → Option Bool) × (Str → SF))} (F : Hnd X.K X.mg x sub)
      (su : ∀ (a : Addr) (oe : Obj) (dn : Str) (D : Addr) (pn : List (Addr × Obj)), X.mg dn = some (.ref D) → Zc (.ref D) none oe → (∃ vs, oe.data = .fields vs) → DSs (X.suite a ((a, oe) :: pn)) (some (a, i)) W0 (b :: bs) (gs dn))
      (more : HdN X n i hds l) (hg : Gl X x := by rfl) (hdb : (x == ("__debug__" : Str)) = false := by decide) : HdN X n i (.ExceptHandler (some (.Name x p)) (some n) (b :: bs) q :: hds) ((sub, gs) :: l)
section
variable {X : Cx} {n : Str} {i : Nat} {W : WX}
theorem HdN.klauses {hds : List ExceptHandler} {l : List ((Str → Option Bool) × (Str → SF))} (h : HdN X n i hds l) : ∃ kl, Klauses X n hds kl ∧ ∀ {W : WX} {p : List Addr} {H : Hp} {σ : L2.St} {Dn : Ends} {c : Str} {r : Ev} {M : Hd} {o : Fl × Hd} {C : Addr},
    Rl X.K X.mg p M H → Sl X.K none p H r σ → sHand i l c r M = some o → PoS ⟨X.K, X.mg, none⟩ W p H o Dn → X.mg c = some (.ref C) → picks X.K i W Dn kl (.ref C) none σ H := by
  induction h with
  | nil => exact ⟨[], .nil, fun R L e po hC => by cases e; exact po _ _ _ _ (List.prefix_refl _) (Le.refl _) R L hC⟩
  | @cons x sub gs b bs p q hds l F su more hg hdb ih =>
    obtain ⟨v, h1, h2⟩ := F.ok hg hdb
    obtain ⟨kl, ks, hk⟩ := ih
    refine ⟨⟨v, fun a cls d Dn σ H => ∃ dn D, cls = .ref D ∧ d = none ∧ X.mg dn = some (.ref D) ∧ gS ⟨X.K, X.mg, some (a, i)⟩ W0 (gs dn) Dn σ H⟩ :: kl, .cons h1 (fun a oe cls d pn hz hv => ⟨fun pins s σ H Dn I h => ?_⟩) ks, ?_⟩
    · obtain ⟨dn, D, rfl, rfl, hm, h⟩ := h
      exact (su a oe dn D pn hm hz hv).run pins s σ H Dn I h
    · intro W p H σ Dn c r M o C R L e po hC
      unfold sHand at e
      cases hsb : sub c with
      | none => rw [hsb] at e; cases e
      | some b =>
        rw [hsb] at e
        cases b with
        | false => exact .inr ⟨h2 c false C hsb hC, hk R L e po hC⟩
        | true =>
          refine .inl ⟨h2 c true C hsb hC, fun a na => ⟨c, C, rfl, rfl, hC, ?_⟩⟩
          dsimp only at e
          cases es : gs c (clr i r) M with
          | none => rw [es] at e; cases e
          | some w =>
            obtain ⟨fl, M2⟩ := w
            refine ⟨p, M, clr i r, (fl, M2), R, L.hold i a, es, ?_⟩
            rw [es] at e
            cases fl with
            | rt d => cases e; exact fun p2 H2 v hp hl R2 q => po p2 H2 v hp hl R2 q
            | nx r2 => cases e; exact fun p2 H2 σ2 hp hl R2 L2 => po p2 H2 _ hp hl R2 (L2.free i)
            | bk r2 => cases e; exact fun p2 H2 σ2 hp hl R2 L2 => po p2 H2 _ hp hl R2 (L2.free i)
            | ct r2 => cases e; exact fun p2 H2 σ2 hp hl R2 L2 => po p2 H2 _ hp hl R2 (L2.free i)
            | xx c2 r2 => cases e
theorem ds_tryN (i : Nat) {body : List Stmt} {h₀ : ExceptHandler} {hds : List ExceptHandler} {l : List ((Str → Option Bool) × (Str → SF))} {pos : Pos} {g : SF} (hN : X.N.Nodup) (tk : Takes X W)
    (hb : ∀ (W : WX) (pn : List (Addr × Obj)) (xe : Value → Shared → Prop), Takes (X.tr pn xe) W → PassesOwn (model X.prog X.w) X.A X.env xe → DSs (X.tr pn xe) none W body g)
    (hh : HdN X n i (h₀ :: hds) l) (hs : X.stack = X.env :: X.outer := by rfl) (hf : X.env.frame = some X.env.locals := by rfl) (hi : X.N[i]? = some n := by rfl) (hln : X.env.kindOf n = some .local := by rfl) :
    DS X none W (.Try body (h₀ :: hds) [] [] pos) (sTryN i l g) := by
  obtain ⟨kl, ks, hk⟩ := hh.klauses
  refine (ps_tryN (tb := fun W => gS (Cx.k X none) W g) hs hf hN hi hln tk hb ks).imp ?_
  rintro Dn σ H ⟨p, M, r, o, R, L, e, po⟩
  unfold sTryN at e
  cases eb : g r M with
  | none => rw [eb] at e; cases e
  | some w =>
    obtain ⟨fl, M1⟩ := w
    refine ⟨p, M, r, (fl, M1), R, L, eb, ?_⟩
    rw [eb] at e
    cases fl with
    | nx r1 => cases e; exact po
    | bk r1 => cases e; exact po
    | ct r1 => cases e; exact po
    | rt d => cases e; exact po
    | xx c1 r1 => exact fun p' H' σ' C hp hl R' L' hC => hk R' L' e (po.up hp hl) hC
end
end DI

end

section
set_option Elab.async false
set_option linter.all false
set_option maxRecDepth 100000
set_option maxHeartbeats 4000000
/-! DI16: own classes: fields read and stored, methods called, instances made. -/
namespace DI
open PySem PySem.Spec PyProof.Rows L2

/-- a class of the module without slots, properties or hooks; fl: names that no class of it has -/
structure ClsK (K : PySem.W.Frag) (mg : Str → Option Value) (c : Str) (fl : List Str) : Prop where
  ex : ∃ C, mg c = some (.ref C) ∧ Cls K C ∧ ∀ f ∈ fl, NoAttr K C f
theorem fld_get {K : PySem.W.Frag} {p : List Addr} {H : Hp} {f : Str} {d : D} : ∀ {fs : List (Str × D)} {ws : List (Str × V)}, Paired (fun (x : Str × D) (y : Str × V) => y.1 = x.1 ∧ Rep K p H x.2 y.2) fs ws → fs.lookup f = some d → ∃ v, ws.lookup f = some v ∧ Rep K p H d v
  | _, _, .nil, h => nomatch h
  | (x, e) :: fs, (y, v) :: ws, .cons h t, q => by
    obtain ⟨h1, h2⟩ := h
    have h1 : y = x := h1
    subst h1
    rw [List.lookup_cons] at q ⊢
    by_cases hf : f == y
    · rw [hf] at q ⊢
      cases q
      exact ⟨v, rfl, h2⟩
    · rw [Bool.not_eq_true] at hf
      rw [hf] at q ⊢
      exact fld_get t q
theorem fld_none {K : PySem.W.Frag} {p : List Addr} {H : Hp} {f : Str} : ∀ {fs : List (Str × D)} {ws : List (Str × V)}, Paired (fun (x : Str × D) (y : Str × V) => y.1 = x.1 ∧ Rep K p H x.2 y.2) fs ws → fs.lookup f = none → ws.lookup f = none
  | _, _, .nil, h => rfl
  | (x, e) :: fs, (y, v) :: ws, .cons h t, q => by
    obtain ⟨h1, h2⟩ := h
    have h1 : y = x := h1
    subst h1
    rw [List.lookup_cons] at q ⊢
    by_cases hf : f == y
    · rw [hf] at q
      cases q
    · rw [Bool.not_eq_true] at hf
      rw [hf] at q ⊢
      exact fld_none t q
/-- a field set -/
def putFD (f : Str) (d : D) : List (Str × D) → List (Str × D)
  | [] => [(f, d)]
  | (g, x) :: r => if g = f then (g, d) :: r else (g, x) :: putFD f d r
theorem fld_put {K : PySem.W.Frag} {p : List Addr} {H : Hp} {f : Str} {d : D} {v : V} (hd : Rep K p H d v) : ∀ {fs : List (Str × D)} {ws : List (Str × V)}, Paired (fun (x : Str × D) (y : Str × V) => y.1 = x.1 ∧ Rep K p H x.2 y.2) fs ws →
    Paired (fun (x : Str × D) (y : Str × V) => y.1 = x.1 ∧ Rep K p H x.2 y.2) (putFD f d fs) (putF f v ws)
  | _, _, .nil => .cons ⟨rfl, hd⟩ .nil
  | (x, e) :: fs, (y, u) :: ws, .cons h t => by
    obtain ⟨h1, h2⟩ := h
    have h1 : y = x := h1
    subst h1
    unfold putFD putF
    by_cases hf : y = f
    · rw [if_pos hf, if_pos hf]
      exact .cons ⟨rfl, hd⟩ t
    · rw [if_neg hf, if_neg hf]
      exact .cons ⟨rfl, h2⟩ (fld_put hd t)
theorem paired_len {α β : Type} {F : α → β → Prop} : ∀ {l : List α} {m : List β}, Paired F l m → l.length = m.length
  | _, _, .nil => rfl
  | _, _, .cons _ t => congrArg (· + 1) (paired_len t)
/-- what stands behind an instance -/
theorem rep_ins {K : PySem.W.Frag} {mg : Str → Option Value} {p : List Addr} {M : Hd} {H : Hp} {i : Nat} {v : V} {c : Str} {fs : List (Str × D)} {C : Addr} (R : Rl K mg p M H) (h : Rep K p H (.ref i) v) (e : M[i]? = some (.ins c fs)) (hc : mg c = some (.ref C)) :
    ∃ a dx ws, v = .ref a ∧ p[i]? = some a ∧ H a = some (.ins C dx ws) ∧ Paired (fun (x : Str × D) (y : Str × V) => y.1 = x.1 ∧ Rep K p H x.2 y.2) fs ws := by
  unfold Rep at h
  obtain ⟨a, ha, rfl⟩ := h
  obtain ⟨b, hb, C', dx, ws, m, e1, e2⟩ := R.ob i _ e
  rw [ha] at hb
  cases hb
  rw [hc] at m
  cases m
  exact ⟨a, dx, ws, rfl, ha, e1, e2⟩
/-- o.f -/
def fldG (c f : Str) : D → Hd → Option (Rs D) := fun x M => match x with
  | .ref i => (match M[i]? with
    | some (.ins c' fs) => if c' = c then pr M (fs.lookup f) else none
    | _ => none)
  | _ => none
/-- o.f = e -/
def sFld (c f : Str) (fo fe : EF) : SF := fun r M => exB (fe r M) r fun d M1 => exB (fo r M1) r fun x M2 => match x with
  | .ref i => (match M2[i]? with
    | some (.ins c' fs) => if c' = c ∧ fs.length < 1000 then some (.nx r, M2.set i (.ins c (putFD f d fs))) else none
    | _ => none)
  | _ => none
section
variable {X : Cx} {z : Zx} {W : WX} {a o e : Expr} {fa fo fe : EF} {c f : Str} {fl : List Str} {pos pos' : Pos}
theorem de_fld (F : ClsK X.K X.mg c fl) (hf : f ∈ fl) (ha : DE X z W a fa) (hb : attributeBase a f X.env (eval a X.env) = eval a X.env := by rfl) : DE X z W (.Attribute a f pos) (eUn (fldG c f) fa) := by
  obtain ⟨C, h1, h2, h3⟩ := F.ex
  refine (pe_fld ha hb).imp ?_
  rintro σ H Q ⟨p, M, ρ, o, R, L, e, po⟩
  refine gE_bnd R L e po fun d M1 p1 H1 v R1 L1 hl1 hp1 q1 e1 po1 => ?_
  unfold fldG at e1
  cases d with
  | ref i =>
    dsimp only at e1
    split at e1
    · rename_i c' fs hi
      split at e1
      · rename_i hcc
        subst hcc
        obtain ⟨a, dx, ws, rfl, _, g2, g3⟩ := rep_ins R1 q1 hi h1
        cases hl : fs.lookup f with
        | none => rw [hl] at e1; cases e1
        | some y =>
          rw [hl] at e1
          cases e1
          obtain ⟨w, w1, w2⟩ := fld_get g3 hl
          exact ⟨a, C, dx, ws, w, rfl, g2, h2, h3 f hf, w1, po1.ok R1 w2⟩
      · cases e1
    · cases e1
  | _ => cases e1
theorem ds_fld (F : ClsK X.K X.mg c fl) (hf : f ∈ fl) (ho : DE X z W o fo) (he : DE X z W e fe) (hs : swapsWith e (some (.Attribute o f pos')) pos.line X.env = pure false := by rfl) : DS X z W (.Assign [.Attribute o f pos'] e pos) (sFld c f fo fe) := by
  obtain ⟨C, h1, h2, h3⟩ := F.ex
  refine (ps_fld ho he hs).imp ?_
  rintro Dn σ H ⟨p, M, ρ, oo, R, L, e, po⟩
  unfold sFld at e
  refine gE_exB R L e po fun d M1 p1 H1 v R1 L1 hl1 hp1 q1 e1 po1 => ?_
  refine gE_exB R1 L1 e1 po1 fun d2 M2 p2 H2 v2 R2 L2 hl2 hp2 q2 e2 po2 => ?_
  cases d2 with
  | ref i =>
    dsimp only at e2
    split at e2
    · rename_i c' fs hi
      split at e2
      · rename_i hcc
        obtain ⟨rfl, hlen⟩ := hcc
        obtain ⟨a, dx, ws, rfl, g1, g2, g3⟩ := rep_ins R2 q2 hi h1
        cases e2
        have q1' := Rep.up hp2 hl2 _ q1
        obtain ⟨R3, hl3⟩ := R2.put (u := .ins C dx (putF f v ws)) (o := .ins c' (putFD f d fs)) g1 fun hl => ⟨C, dx, _, h1, upd_same, paired_mono (fun x y q => ⟨q.1, Rep.up (List.prefix_refl _) hl _ q.2⟩) (fld_put q1' g3)⟩
        exact ⟨a, C, dx, ws, rfl, g2, h2, h3 f hf, by rw [← paired_len g3]; exact hlen, po2 p2 _ σ (List.prefix_refl p2) hl3 R3 (L2.up (List.prefix_refl p2) hl3)⟩
      · cases e2
    · cases e2
  | _ => cases e2
end
/-! ### methods, new instances -/
section
variable {X : Cx} {k : Nat} {C f : Addr} {fd : FuncData} {ps : List Str} {sp : Sp} {E : L2.St → XK} {x m : Str} {p pos apos : Pos} {e o : Expr} {es : List Expr} {ta : TE} {t : TA}
/-- o.m(e, ..), what is raised is wished for at the caller's slots -/
theorem pe_methAt {pl : Sem Bool} (he : PE X o ta) (cl : Cls X.K C) (hm : Meth X.K C m f) (F : FnOk X.prog X.w X.K X.mg X.base (L2.CX X.prog X.w) k f fd ps sp) (hr : Room k X.A) (hb : Binds X.K fd ps []) (hx : ∀ σ, PassesAt (L2.CX X.prog X.w) X σ (E σ)) (ha : PA X (e :: es) t)
    (hst : starEach (e :: es) X.env = (false, eval e X.env) :: starEach es X.env) (hpl : (backTo pos (starEach es X.env)).any (·.1) = false)
    (ht : eval (.Call (.Attribute o m apos) (e :: es) [] pos) X.env = (do
      let ov ← eval o X.env
      standAt apos.atName
      let (f, first) ← holding [ov] (getMethod ov m pl)
      callWith pos f first (backTo pos (starEach (e :: es) X.env)) (backToKw pos (keywordEach [] X.env)))) :
    PE X (.Call (.Attribute o m apos) (e :: es) [] pos) (fun σ H Q => tMeth C m sp [] (E σ) ta t σ H Q) := by
  constructor
  intro pins s σ H Q I h
  refine PySem.W.methodCall_KW (pl := pl) (thn (he.run pins s σ H _ I h) ?_) ht
  rintro u s1 ⟨_, H1, I1, ru, a, dx, fs, rfl, there, free, q⟩
  cases ru
  refine getmeth_ok I1 there cl hm free (PySem.W.callWith_K (first := [.ref a]) (h₀ := X.base) I.ok.mod.kin hm.kp (thn (ha.run pos pins s1 σ H1 _ I1 q) ?_) hst hpl)
  rintro us s2 ⟨vs, H2, I2, r, q2⟩
  exact ⟨I2.kIn, run_fnSD (us := .ref a :: us) (vs := .ref a :: vs) F hr hb .nil (hx σ) I2 (.cons rfl r) q2⟩
theorem pe_methAt0 {pl : Sem Bool} (he : PE X o ta) (cl : Cls X.K C) (hm : Meth X.K C m f) (F : FnOk X.prog X.w X.K X.mg X.base (L2.CX X.prog X.w) k f fd ps sp) (hr : Room k X.A) (hb : Binds X.K fd ps []) (hx : ∀ σ, PassesAt (L2.CX X.prog X.w) X σ (E σ))
    (ht : eval (.Call (.Attribute o m apos) [] [] pos) X.env = (do
      let ov ← eval o X.env
      standAt apos.atName
      let (f, first) ← holding [ov] (getMethod ov m pl)
      callWith pos f first (backTo pos (starEach [] X.env)) (backToKw pos (keywordEach [] X.env)))) :
    PE X (.Call (.Attribute o m apos) [] [] pos) (fun σ H Q => tMeth C m sp [] (E σ) ta tNil σ H Q) := by
  constructor
  intro pins s σ H Q I h
  refine PySem.W.methodCall_KW (pl := pl) (thn (he.run pins s σ H _ I h) ?_) ht
  rintro u s1 ⟨_, H1, I1, ru, a, dx, fs, rfl, there, free, q⟩
  cases ru
  refine getmeth_ok I1 there cl hm free (PySem.W.callWith_K0 (first := [.ref a]) I1.kIn hm.kp ?_)
  exact run_fnSD (us := [.ref a]) (vs := [.ref a]) F hr hb .nil (hx σ) I1 (.cons rfl .nil) q
/-- C(..): the instance and its dict are laid, __init__ runs -/
theorem makeAt {pins : List (Addr × Obj)} {σ : L2.St} {H : Hp} {s : Shared} {Q : VK} {us : List Value} {vs : List V} (M : Mk X.K C f) (F : FnOk X.prog X.w X.K X.mg X.base (L2.CX X.prog X.w) k f fd ps sp) (hr : Room (k + 1) X.A) (hb : Binds X.K fd ps []) (hx : PassesAt (L2.CX X.prog X.w) X σ (E σ))
    (I : Inv X pins σ H s) (r : Vals vs us) (h : ∀ x dx, H x = none → H dx = none → dx ≠ x → sp (.ref x :: (vs ++ [])) (upd (upd H dx (.own x)) x (.ins C dx [])) (fun v H2 => v = .non ∧ Q (.ref x) H2) (E σ)) :
    wpAny (model X.prog X.w) X.A (call (.ref C) us) (EP X pins σ Q) X.xe s := by
  have new := Inv.made (C := C) I
  generalize hn : s.heap.objs.size = d at new
  have wish := h (d + 1) d (I.hok.fresh (by rw [hn]; exact Nat.le_succ d)) (I.hok.fresh (by rw [hn]; exact Nat.le_refl d)) (Nat.ne_of_lt (Nat.lt_succ_self d))
  rw [List.append_nil] at wish
  have args : Vals (V.ref (d + 1) :: vs) (Value.ref (d + 1) :: us) := .cons rfl r
  have few : (Value.ref (d + 1) :: us).length = ps.length := by rw [← args.length]; exact F.len _ _ _ _ wish
  have inner := F.run (X.A.under (.builtin "type.__call__" ⟨.ref C :: us, []⟩)) X.stack _ _ ⟨Value.ref (d + 1) :: us, []⟩ (Value.ref (d + 1) :: us) _ _ (E σ) (hr.make C us []) (new.env0.make C us []) (by
    have := hb _ (Value.ref (d + 1) :: us) new.kIn (by rw [List.append_nil]; exact few)
    rw [List.append_nil] at this
    exact this) args wish
  refine wpAny_call (make_map (f := f) I.kIn M.makes M.init (beq_iff_eq.mp M.fn) ?_)
  rw [hn]
  refine codeAny_mono inner ?_
  intro res s' back
  cases res with
  | error ex => exact hx pins _ _ ex s' new back
  | ok fl =>
    cases fl with
    | ret u =>
      obtain ⟨v, H3, I3, rv, hv, done⟩ := new.after back
      subst hv
      exact ⟨rv, .ref (d + 1), H3, I3, rfl, done⟩
    | next => exact back.elim
    | brk => exact back.elim
    | cont => exact back.elim
theorem pe_makeAt (M : Mk X.K C f) (F : FnOk X.prog X.w X.K X.mg X.base (L2.CX X.prog X.w) k f fd ps sp) (hr : Room (k + 1) X.A) (hg : Gl X x) (hm : X.mg x = some (.ref C)) (hb : Binds X.K fd ps []) (hx : ∀ σ, PassesAt (L2.CX X.prog X.w) X σ (E σ))
    (ha : PA X (e :: es) t) (hdb : (x == ("__debug__" : Str)) = false) (he : starEach (e :: es) X.env = (false, eval e X.env) :: starEach es X.env) (hpl : (backTo pos (starEach es X.env)).any (·.1) = false) :
    PE X (.Call (.Name x p) (e :: es) [] pos) (fun σ H Q => tMake C sp [] (E σ) t σ H Q) := by
  constructor
  intro pins s σ H Q I h
  refine wpAny_Call_Name_kw (ld_glob I hg hm (PySem.W.callWith_K (h₀ := X.base) I.ok.mod.kin M.kp (thn (ha.run pos pins s σ H _ I h) ?_) he hpl) hdb)
  rintro us s1 ⟨vs, H1, I1, r, q⟩
  exact ⟨I1.kIn, makeAt M F hr hb (hx σ) I1 r q⟩
end
/-! ### their mirrors -/
/-- a method of a class of the module, by its mirror -/
structure Mth (P : Program) (w : World) (K : PySem.W.Frag) (mg : Str → Option Value) (base : Heap) (k : Nat) (c m : Str) (n : Nat) (mm : List D → Hd → Option (Rs D)) : Prop where
  ln : ∀ ds M o, mm ds M = some o → ds.length = n
  ex : ∃ C f fd ps, mg c = some (.ref C) ∧ Cls K C ∧ Meth K C m f ∧ Binds K fd ps [] ∧ FnOk P w K mg base (L2.CX P w) k f fd ps (spD K mg n mm)
theorem Mth.mono {P : Program} {w : World} {K : PySem.W.Frag} {mg : Str → Option Value} {base : Heap} {j k n : Nat} {c m : Str} {mm : List D → Hd → Option (Rs D)} (h : Mth P w K mg base j c m n mm) (hk : j ≤ k) : Mth P w K mg base k c m n mm := by
  obtain ⟨C, f, fd, ps, h1, h2, h3, h4, h5⟩ := h.ex
  exact ⟨h.ln, C, f, fd, ps, h1, h2, h3, h4, h5.mono hk⟩
/-- a class of the module that is made with __init__, by __init__'s mirror -/
structure MkI (P : Program) (w : World) (K : PySem.W.Frag) (mg : Str → Option Value) (base : Heap) (k : Nat) (c : Str) (n : Nat) (mm : List D → Hd → Option (Rs D)) : Prop where
  ln : ∀ ds M o, mm ds M = some o → ds.length = n
  ex : ∃ C f fd ps, mg c = some (.ref C) ∧ Mk K C f ∧ Binds K fd ps [] ∧ FnOk P w K mg base (L2.CX P w) k f fd ps (spD K mg n mm)
theorem MkI.mono {P : Program} {w : World} {K : PySem.W.Frag} {mg : Str → Option Value} {base : Heap} {j k n : Nat} {c : Str} {mm : List D → Hd → Option (Rs D)} (h : MkI P w K mg base j c n mm) (hk : j ≤ k) : MkI P w K mg base k c n mm := by
  obtain ⟨C, f, fd, ps, h1, h2, h3, h4⟩ := h.ex
  exact ⟨h.ln, C, f, fd, ps, h1, h2, h3, h4.mono hk⟩
def eMeth (c m : Str) (mm : List D → Hd → Option (Rs D)) (fa : EF) (g : AF) : EF := fun r M => bnd (fa r M) fun x M1 => match x with
  | .ref i => (match M1[i]? with
    | some (.ins c' fs) => if c' = c ∧ fs.lookup m = none then bnd (g r M1) fun ds M2 => mm (.ref i :: ds) M2 else none
    | _ => none)
  | _ => none
def eMake (c : Str) (mm : List D → Hd → Option (Rs D)) (g : AF) : EF := fun r M => bnd (g r M) fun ds M1 => match mm (.ref M1.length :: ds) (M1 ++ [.ins c []]) with
  | some (.ok .non M2) => some (.ok (.ref M1.length) M2)
  | some (.er c2 M2) => some (.er c2 M2)
  | _ => none
section
variable {X : Cx} {z : Zx} {W : WX} {a e : Expr} {es : List Expr} {fa : EF} {g : AF} {c m : Str} {k n : Nat} {mm : List D → Hd → Option (Rs D)} {p' ap pos : Pos}
theorem de_meth {pl : Sem Bool} (F : Mth X.prog X.w X.K X.mg X.base k c m n mm) (tk : Takes X W) (hr : Room k X.A) (ha : DE X z W a fa) (hg : DA X z W (e :: es) g)
    (hst : starEach (e :: es) X.env = (false, eval e X.env) :: starEach es X.env := by rfl) (hpl : (backTo pos (starEach es X.env)).any (·.1) = false := by rfl)
    (ht : eval (.Call (.Attribute a m ap) (e :: es) [] pos) X.env = (do
      let ov ← eval a X.env
      standAt ap.atName
      let (f, first) ← holding [ov] (getMethod ov m pl)
      callWith pos f first (backTo pos (starEach (e :: es) X.env)) (backToKw pos (keywordEach [] X.env))) := by rfl) : DE X z W (.Call (.Attribute a m ap) (e :: es) [] pos) (eMeth c m mm fa g) := by
  obtain ⟨C, f, fd, ps, h1, h2, h3, h4, h5⟩ := F.ex
  refine (pe_methAt ha h2 h3 h5 hr h4 (E := fun σ cls d H' => W cls d σ H') (fun σ => passAt tk σ) hg hst hpl ht).imp ?_
  rintro σ H Q ⟨p, M, ρ, o, R, L, e, po⟩
  refine gE_bnd R L e po fun d M1 p1 H1 v R1 L1 hl1 hp1 q1 e1 po1 => ?_
  cases d with
  | ref i =>
    dsimp only at e1
    split at e1
    · rename_i c' fs hi
      split at e1
      · rename_i hcc
        obtain ⟨rfl, hno⟩ := hcc
        obtain ⟨a, dx, ws, rfl, _, g2, g3⟩ := rep_ins R1 q1 hi h1
        refine ⟨a, dx, ws, rfl, g2, fld_none g3 hno, ?_⟩
        refine gE_bnd R1 L1 e1 po1 fun ds M2 p2 H2 vs R2 L2 hl2 hp2 q2 e2 po2 => ?_
        rw [List.append_nil]
        exact sp_of R2 (reps_cons (Rep.up hp2 hl2 _ q1) q2) (F.ln _ _ _ e2) e2 po2
      · cases e1
    · cases e1
  | _ => cases e1
theorem de_meth0 {pl : Sem Bool} (F : Mth X.prog X.w X.K X.mg X.base k c m n mm) (tk : Takes X W) (hr : Room k X.A) (ha : DE X z W a fa)
    (ht : eval (.Call (.Attribute a m ap) [] [] pos) X.env = (do
      let ov ← eval a X.env
      standAt ap.atName
      let (f, first) ← holding [ov] (getMethod ov m pl)
      callWith pos f first (backTo pos (starEach [] X.env)) (backToKw pos (keywordEach [] X.env))) := by rfl) : DE X z W (.Call (.Attribute a m ap) [] [] pos) (eMeth c m mm fa aNil) := by
  obtain ⟨C, f, fd, ps, h1, h2, h3, h4, h5⟩ := F.ex
  refine (pe_methAt0 ha h2 h3 h5 hr h4 (E := fun σ cls d H' => W cls d σ H') (fun σ => passAt tk σ) ht).imp ?_
  rintro σ H Q ⟨p, M, ρ, o, R, L, e, po⟩
  refine gE_bnd R L e po fun d M1 p1 H1 v R1 L1 hl1 hp1 q1 e1 po1 => ?_
  cases d with
  | ref i =>
    dsimp only at e1
    split at e1
    · rename_i c' fs hi
      split at e1
      · rename_i hcc
        obtain ⟨rfl, hno⟩ := hcc
        obtain ⟨a, dx, ws, rfl, _, g2, g3⟩ := rep_ins R1 q1 hi h1
        refine ⟨a, dx, ws, rfl, g2, fld_none g3 hno, ?_⟩
        unfold aNil at e1
        rw [bnd_ok] at e1
        exact sp_of R1 (reps_cons q1 reps_nil) (F.ln _ _ _ e1) e1 po1
      · cases e1
    · cases e1
  | _ => cases e1
theorem de_make (F : MkI X.prog X.w X.K X.mg X.base k c n mm) (tk : Takes X W) (hr : Room (k + 1) X.A) (hg : DA X z W (e :: es) g) (hgl : Gl X c := by rfl) (hdb : (c == ("__debug__" : Str)) = false := by decide)
    (he : starEach (e :: es) X.env = (false, eval e X.env) :: starEach es X.env := by rfl) (hpl : (backTo pos (starEach es X.env)).any (·.1) = false := by rfl) : DE X z W (.Call (.Name c p') (e :: es) [] pos) (eMake c mm g) := by
  obtain ⟨C, f, fd, ps, h1, h2, h3, h4⟩ := F.ex
  refine (pe_makeAt h2 h4 hr hgl h1 h3 (E := fun σ cls d H' => W cls d σ H') (fun σ => passAt tk σ) hg hdb he hpl).imp ?_
  rintro σ H Q ⟨p, M, ρ, o, R, L, e, po⟩
  refine gE_bnd R L e po fun ds M1 p1 H1 vs R1 L1 hl1 hp1 q1 e1 po1 => ?_
  intro x dx hx hdx ne
  have hx2 : upd H1 dx (.own x) x = none := by rw [upd_ne (Ne.symm ne)]; exact hx
  have le1 : Le H1 (upd H1 dx (.own x)) := Le.new hdx
  have le2 : Le (upd H1 dx (.own x)) (upd (upd H1 dx (.own x)) x (.ins C dx [])) := Le.new hx2
  have R2 : Rl X.K X.mg (p1 ++ [x]) (M1 ++ [.ins c []]) (upd (upd H1 dx (.own x)) x (.ins C dx [])) := (R1.other hdx).new hx2 ⟨C, dx, [], h1, upd_same, .nil⟩
  have at_ : ∀ {p2 : List Addr}, p1 ++ [x] <+: p2 → p2[M1.length]? = some x := fun {p2} h => by
    obtain ⟨t, rfl⟩ := h
    rw [← R1.len, List.append_assoc, List.getElem?_append_right (Nat.le_refl _), Nat.sub_self]
    rfl
  have q2 : Reps X.K (p1 ++ [x]) (upd (upd H1 dx (.own x)) x (.ins C dx [])) (.ref M1.length :: ds) (.ref x :: vs) := reps_cons (rep_ref (at_ (List.prefix_refl _))) (Reps.up (List.prefix_append p1 [x]) (le1.trans le2) _ q1)
  rw [List.append_nil]
  cases em : mm (.ref M1.length :: ds) (M1 ++ [.ins c []]) with
  | none => rw [em] at e1; cases e1
  | some o2 =>
    refine ⟨p1 ++ [x], _, _, o2, R2, q2, F.ln _ _ _ em, em, ?_⟩
    rw [em] at e1
    cases o2 with
    | er c2 M2 =>
      cases e1
      exact fun p2 H2 C2 hp hl R3 hC => po1 p2 H2 C2 ((List.prefix_append p1 [x]).trans hp) ((le1.trans le2).trans hl) R3 hC
    | ok d M2 =>
      cases d with
      | non =>
        cases e1
        intro p2 H2 v hp hl R3 hv
        unfold Rep at hv
        exact ⟨hv, po1 p2 H2 (.ref x) ((List.prefix_append p1 [x]).trans hp) ((le1.trans le2).trans hl) R3 (rep_ref (at_ hp))⟩
      | _ => cases e1
end
end DI

end

section
set_option Elab.async false
set_option linter.all false
set_option maxRecDepth 100000
set_option maxHeartbeats 4000000
/-! DI17: {"a": x, ..} and d["a"]. -/
namespace DI
open PySem PySem.Spec PyProof.Rows L2

/-- d[k], d of text keys -/
def dgetG : G2 := fun x y M => match x, y with
  | .ref i, .str s => (match M[i]? with
    | some (.dic kvs) => pr M (kvs.lookup s)
    | _ => none)
  | _, _ => none
theorem dic_get {K : PySem.W.Frag} {p : List Addr} {H : Hp} {s : Str} {d : D} : ∀ {kvs : List (Str × D)} {ws : List (Key × V)}, Paired (fun (x : Str × D) (y : Key × V) => y.1 = Sum.inr x.1 ∧ Rep K p H x.2 y.2) kvs ws → kvs.lookup s = some d → ∃ v, valV ws (Sum.inr s) = some v ∧ Rep K p H d v
  | _, _, .nil, h => nomatch h
  | (x, e) :: kvs, (y, v) :: ws, .cons h t, q => by
    obtain ⟨h1, h2⟩ := h
    have h1 : y = Sum.inr x := h1
    subst h1
    rw [List.lookup_cons] at q
    by_cases hf : s == x
    · rw [hf] at q
      cases q
      exact ⟨v, valV_pos (p := (Sum.inr x, v)) (by rw [eq_of_beq hf]), h2⟩
    · rw [Bool.not_eq_true] at hf
      rw [hf] at q
      obtain ⟨u, u1, u2⟩ := dic_get t q
      refine ⟨u, ?_, u2⟩
      rw [valV_neg (p := (Sum.inr x, v)) (fun e => by
        have : x = s := Sum.inr.inj e
        rw [this, beq_self_eq_true] at hf
        cases hf)]
      exact u1
section
variable {X : Cx} {z : Zx} {W : WX} {a b : Expr} {fa fb : EF} {pos : Pos}
theorem de_dget (hu : X.A.units + 1 < cLine) (ha : DE X z W a fa) (hb : DE X z W b fb) (hs : NoSl b := by exact fun _ _ => rfl) : DE X z W (.Subscript a b pos) (eOp dgetG fa fb) := by
  refine (pe_dget hu ha hb hs).imp ?_
  rintro σ H Q ⟨p, M, ρ, o, R, L, e, po⟩
  refine gE_bnd R L e po fun d M1 p1 H1 v R1 L1 hl1 hp1 q1 e1 po1 => ?_
  refine gE_bnd R1 L1 e1 po1 fun d2 M2 p2 H2 u R2 L2 hl2 hp2 q2 e2 po2 => ?_
  unfold dgetG at e2
  split at e2
  · rename_i i s
    split at e2
    · rename_i kvs hi
      have q1 := Rep.up hp2 hl2 _ q1
      unfold Rep at q1 q2
      obtain ⟨x, hx, rfl⟩ := q1
      obtain ⟨y, hy, ws, w1, w2⟩ := R2.ob i _ hi
      rw [hx] at hy
      cases hy
      subst q2
      cases hl : kvs.lookup s with
      | none => rw [hl] at e2; cases e2
      | some dv =>
        rw [hl] at e2
        cases e2
        obtain ⟨t, t1, t2⟩ := dic_get w2 hl
        have g := DGet.k (k := Sum.inr s) w1
        rw [t1] at g
        exact ⟨x, t, rfl, g, po2.ok R2 t2⟩
    · cases e2
  · cases e2
end
/-- pairs of a display -/
def DP (X : Cx) (z : Zx) (W : WX) (pos : Pos) (keys : List (Option Expr)) (values : List Expr) (ks : List Str) (g : AF) : Prop :=
  ∃ trs, PPs X pos keys values trs ∧ ∀ σ H (Q : List (V × V) → Hp → Prop), gE (Cx.k X z) W (rA (Cx.k X z)) g σ H (fun vs H' => Q ((ks.zip vs).map fun kv => (V.str kv.1, kv.2)) H') → tPairs trs σ H Q
section
variable {X : Cx} {z : Zx} {W : WX} {pos p : Pos} {keys : List (Option Expr)} {values : List Expr} {ks : List Str} {g : AF} {fa : EF} {v : Expr} {x : Str} {j : Nat}
theorem dp_nil : DP X z W pos [] [] [] aNil := by
  refine ⟨[], pps_nil, ?_⟩
  rintro σ H Q ⟨p, M, ρ, o, R, L, e, po⟩
  cases e
  exact po p H [] (List.prefix_refl _) (Le.refl _) R reps_nil
theorem dp_cons (hv : DE X z W v fa) (hr : DP X z W pos keys values ks g) : DP X z W pos (some (.Constant (.str x) j p) :: keys) (v :: values) (x :: ks) (aCons fa g) := by
  obtain ⟨trs, h1, h2⟩ := hr
  refine ⟨_, pps_cons pe_str hv h1, ?_⟩
  rintro σ H Q ⟨p, M, ρ, o, R, L, e, po⟩
  show gE (Cx.k X z) W (rD (Cx.k X z)) fa σ H _
  unfold aCons at e
  refine gE_bnd R L e po fun d M1 p1 H1 v R1 L1 hl1 hp1 q1 e1 po1 => ?_
  refine h2 σ H1 _ (gE_bnd R1 L1 e1 po1 fun ds M2 p2 H2 vs R2 L2 hl2 hp2 q2 e2 po2 => ?_)
  cases e2
  exact po2 p2 H2 (v :: vs) (List.prefix_refl _) (Le.refl _) R2 (reps_cons (Rep.up hp2 hl2 _ q1) q2)
end
def eDic (ks : List Str) (g : AF) : EF := fun r M => bnd (g r (M ++ [.dic []])) fun ds M1 =>
  match M1[M.length]? with
  | some (.dic []) => if ds.length = ks.length ∧ ks.Nodup ∧ ks.length ≤ 15 then some (.ok (.ref M.length) (M1.set M.length (.dic (ks.zip ds)))) else none
  | _ => none
theorem merge_new : ∀ (l acc : List (Key × V)), (l.map (·.1)).Nodup → (∀ x ∈ l, ∀ y ∈ acc, y.1 ≠ x.1) → mergeK acc l = acc ++ l
  | [], acc, _, _ => by rw [List.append_nil]; rfl
  | x :: l, acc, hn, hd => by
    have e : putK acc x.1 x.2 = acc ++ [x] := by
      unfold putK
      rw [if_neg]
      intro h
      obtain ⟨y, hy, e⟩ := List.any_eq_true.mp h
      exact hd x List.mem_cons_self y hy (of_decide_eq_true e)
    have hn' : x.1 ∉ l.map (·.1) ∧ (l.map (·.1)).Nodup := List.nodup_cons.mp hn
    show mergeK (putK acc x.1 x.2) l = _
    rw [e, merge_new l (acc ++ [x]) hn'.2 (fun u hu y hy => ?_), List.append_assoc]
    · rfl
    · rcases List.mem_append.mp hy with hy | hy
      · exact hd u (List.mem_cons_of_mem _ hu) y hy
      · rw [List.mem_singleton] at hy
        subst hy
        intro q
        exact hn'.1 (by rw [q]; exact List.mem_map_of_mem hu)
theorem PoE.up' {k : Kx} {W : WX} {p p1 : List Addr} {H H1 : Hp} {σ : L2.St} {o : Rs D} {Q : VK} (h : PoE k W (rD k) p H σ o Q) (hp : p <+: p1) (hl : Le H H1) : PoE k W (rD k) p1 H1 σ o Q := by
  cases o with
  | ok d M => exact fun p' H' v a b c e => h p' H' v (hp.trans a) (hl.trans b) c e
  | er c M => exact fun p' H' C a b e f => h p' H' C (hp.trans a) (hl.trans b) e f
theorem zip_pairs {K : PySem.W.Frag} {p : List Addr} {H : Hp} : ∀ {ks : List Str} {ds : List D} {vs : List V}, Reps K p H ds vs → Paired (fun (x : Str × D) (y : Key × V) => y.1 = Sum.inr x.1 ∧ Rep K p H x.2 y.2) (ks.zip ds) ((ks.zip vs).map fun kv => (Sum.inr kv.1, kv.2))
  | [], ds, vs, _ => .nil
  | k :: ks, [], vs, h => by
    unfold Reps at h
    subst h
    exact .nil
  | k :: ks, d :: ds, vs, h => by
    unfold Reps at h
    obtain ⟨v, ws, rfl, h1, h2⟩ := h
    exact .cons ⟨rfl, h1⟩ (zip_pairs h2)
section
variable {X : Cx} {z : Zx} {W : WX} {pos : Pos} {keys : List (Option Expr)} {values : List Expr} {ks : List Str} {g : AF}
theorem de_dic (h : DP X z W pos keys values ks g) (hall : keys.all (·.isSome) = true := by rfl) (hl : keys.length = values.length := by rfl) (h0 : keys ≠ [] := by exact fun h => nomatch h) (h15 : keys.length ≤ 15 := by decide) : DE X z W (.Dict keys values pos) (eDic ks g) := by
  obtain ⟨trs, h1, h2⟩ := h
  refine (pe_disp h1 hall hl h0 h15).imp ?_
  rintro σ H Q ⟨p, M, ρ, o, R, L, e, po⟩
  intro a ha
  have R1 : Rl X.K X.mg (p ++ [a]) (M ++ [.dic []]) (upd H a (.dK [])) := R.new ha ⟨[], upd_same, .nil⟩
  have hp : p <+: p ++ [a] := List.prefix_append p [a]
  have hl : Le H (upd H a (.dK [])) := Le.new ha
  unfold eDic at e
  refine h2 σ _ _ (gE_bnd R1 (L.up hp hl) e (po.up' hp hl) fun ds M2 p2 H2 vs R2 L2 hl2 hp2 q2 e2 po2 => ?_)
  split at e2
  · rename_i hM
    split at e2
    · rename_i hc
      obtain ⟨hlen, hnd, h16⟩ := hc
      have at_ : p2[M.length]? = some a := by
        obtain ⟨t, rfl⟩ := hp2
        rw [← R.len, List.append_assoc, List.getElem?_append_right (Nat.le_refl _), Nat.sub_self]
        rfl
      obtain ⟨b, hb, ws, w1, w2⟩ := R2.ob _ _ hM
      rw [at_] at hb
      cases hb
      cases w2
      cases e2
      have hvl : vs.length = ks.length := by rw [← hlen, reps_len q2]
      have hz : (ks.zip vs).length = ks.length := by rw [List.length_zip, hvl, Nat.min_self]
      refine ⟨w1, (ks.zip vs).map fun kv => (Sum.inr kv.1, kv.2), ?_, by rw [List.length_map, hz]; exact h16, ?_⟩
      · rw [List.map_map]
        rfl
      · rw [merge_new _ [] ?_ (fun x hx y hy => nomatch hy), List.nil_append]
        · obtain ⟨R3, hl3⟩ := R2.put (u := .dK ((ks.zip vs).map fun kv => (Sum.inr kv.1, kv.2))) (o := .dic (ks.zip ds)) at_ fun hl => ⟨_, upd_same, paired_mono (fun x y q => ⟨q.1, Rep.up (List.prefix_refl _) hl _ q.2⟩) (zip_pairs q2)⟩
          exact po2 p2 _ (.ref a) (List.prefix_refl _) hl3 R3 (rep_ref at_)
        · rw [List.map_map]
          have e3 : (ks.zip vs).map ((fun x : Key × V => x.1) ∘ fun kv : Str × V => ((Sum.inr kv.1 : Key), kv.2)) = ((ks.zip vs).map Prod.fst).map fun x => (Sum.inr x : Key) := by
            rw [List.map_map]
            rfl
          rw [e3, List.map_fst_zip (by omega)]
          exact List.Pairwise.map _ (fun x y h e => h (Sum.inr.inj e)) hnd
    · cases e2
  · cases e2
end
end DI

end

section
set_option Elab.async false
set_option linter.all false
set_option maxRecDepth 100000
set_option maxHeartbeats 4000000
/-! DI18: len(o), -o, o + p of own classes. -/
namespace DI
open PySem PySem.Spec PyProof.Rows L2

section
variable {X : Cx} {k : Nat} {C f a b dx dy : Addr} {fd : FuncData} {ps : List Str} {sp : Sp} {E : L2.St → XK} {pins : List (Addr × Obj)} {σ : L2.St} {H : Hp} {s : Shared} {fs gs : List (Str × V)} {m : Str} {A : Around}
theorem run_fnAt {Q : VK} {us : List Value} {vs : List V} (F : FnOk X.prog X.w X.K X.mg X.base (L2.CX X.prog X.w) k f fd ps sp) (hr : Room k A) (e0 : Env0 X.prog X.w X.K X.mg X.base A X.stack s H) (hb : Binds X.K fd ps []) (hx : PassesAt (L2.CX X.prog X.w) X σ (E σ)) (I : Inv X pins σ H s) (r : Vals vs us) (h : sp vs H Q (E σ)) :
    wpAny (model X.prog X.w) A (call (.ref f) us) (EP X pins σ Q) X.xe s := by
  have few : us.length = ps.length := by rw [← r.length]; exact F.len _ _ _ _ h
  have bd := hb s us I.kIn (by rw [List.append_nil]; exact few)
  rw [List.append_nil] at bd
  refine wpAny_call (codeAny_mono (F.run A X.stack s H ⟨us, []⟩ us vs Q (E σ) hr e0 bd r h) ?_)
  intro res s' back
  cases res with
  | error ex => exact hx pins H s ex s' I back
  | ok fl =>
    cases fl with
    | ret u => exact I.after back
    | next => exact back.elim
    | brk => exact back.elim
    | cont => exact back.elim
theorem inst_of (I : Inv X pins σ H s) (e : H a = some (.ins C dx fs)) : ∃ od, PySem.W.InstAt s.heap a (PySem.W.instObj C dx) C od := by
  obtain ⟨mA, O, _⟩ := ins_get I.hok e
  obtain ⟨od, J, _⟩ := O.look
  exact ⟨od, J⟩
theorem special_ok {Q : Option Value → Shared → Prop} {Ee : Value → Shared → Prop} {us : List Value} (I : Inv X pins σ H s) (e : H a = some (.ins C dx fs)) (hm : Meth X.K C m f)
    (h : wpAny (model X.prog X.w) A (call (.ref f) (.ref a :: us)) (fun v => Q (some v)) Ee s) : wpAny (model X.prog X.w) A (callSpecial? (.ref a) m us) Q Ee s := by
  obtain ⟨od, J⟩ := inst_of I e
  exact PySem.W.special_fn I.kIn J hm.at_ (beq_iff_eq.mp hm.fn) h
theorem neg_own {Q : Value → Shared → Prop} {Ee : Value → Shared → Prop} (I : Inv X pins σ H s) (e : H a = some (.ins C dx fs)) (hm : Meth X.K C "__neg__" f)
    (h : wpAny (model X.prog X.w) A (call (.ref f) [.ref a]) Q Ee s) : wpAny (model X.prog X.w) A (unaryOp .USub (.ref a)) Q Ee s := by
  have one : wpAny (model X.prog X.w) A (callSpecial? (.ref a) "__neg__") (fun r s' => ∃ v, r = some v ∧ Q v s') Ee s := special_ok I e hm (wpAny_mono h (fun v _ q => ⟨v, rfl, q⟩) fun _ _ q => q)
  unfold unaryOp
  refine wpAny_holding (wpAny_bind (wpAny_mono one (fun r s' q => ?_) fun _ _ q => q))
  obtain ⟨v, rfl, q⟩ := q
  exact wpAny_pure q
theorem len_own {Q : Value → Shared → Prop} {Ee : Value → Shared → Prop} (I : Inv X pins σ H s) (e : H a = some (.ins C dx fs)) (hm : Meth X.K C "__len__" f)
    (h : wpAny (model X.prog X.w) A.in1 (call (.ref f) [.ref a]) (fun v s' => ∃ (n : Int) (t : Tok), v = .int n t ∧ 0 ≤ n ∧ n < 2 ^ 63 ∧ Q (.int n s'.toks) { s' with toks := s'.toks + 1 }) Ee s) : wpAny (model X.prog X.w) A (call (.builtin "len") [.ref a]) Q Ee s := by
  have fit : wpAny (model X.prog X.w) A.in1 (callSpecial? (.ref a) (Str.ofString "__len__")) (fun r s' => ∃ (n : Int) (t : Tok), r = some (.int n t) ∧ 0 ≤ n ∧ n < 2 ^ 63 ∧ Q (.int n s'.toks) { s' with toks := s'.toks + 1 }) Ee s := by
    refine special_ok I e hm (wpAny_mono h (fun v _ q => ?_) fun _ _ q => q)
    obtain ⟨n, t, rfl, q⟩ := q
    exact ⟨n, t, rfl, q⟩
  refine Calls.call_function_entry (args := [.ref a]) kind_len plain_len entry_len (args_len1 _) ?_
  unfold Builtin.«len»
  refine wpAny_bind (m := oneArg "len" _) (wpAny_pure (wpAny_bind (wpAny_mono fit (fun r s' q => ?_) fun _ _ q => q)))
  obtain ⟨n, t, rfl, h0, h1, q⟩ := q
  refine wpAny_bind (wpAny_holding (wpAny_pure (wpAny_bind (wpAny_letGo ?_))))
  show wpAny _ _ (if n < 0 then _ else _) _ _ _
  rw [if_neg (by omega : ¬ n < 0)]
  show wpAny _ _ (if n ≥ 2 ^ 63 then _ else _) _ _ _
  rw [if_neg (by omega : ¬ n ≥ 2 ^ 63)]
  exact wpAny_bind (wpAny_mkInt (wpAny_pure ⟨_, rfl, q⟩))
theorem add_own {Q : Value → Shared → Prop} {Ee : Value → Shared → Prop} (I : Inv X pins σ H s) (ea : H a = some (.ins C dx fs)) (eb : H b = some (.ins C dy gs)) (hm : Meth X.K C "__add__" f) (hc : PySem.W.selfFirst X.K C = true)
    (h : wpAny (model X.prog X.w) A (call (.ref f) [.ref a, .ref b]) (PySem.W.CmpBack Q) Ee s) : wpAny (model X.prog X.w) A (binaryOp .Add (.ref a) (.ref b)) Q Ee s := by
  obtain ⟨od, J⟩ := inst_of I ea
  obtain ⟨oe, J2⟩ := inst_of I eb
  obtain ⟨cd, rest, hcd, hmro⟩ := PySem.W.ksp_first hc
  have K0 := I.kIn
  have one := PySem.W.ksp_try (name := "__add__") K0 J hm.at_ hm.fn h
  obtain ⟨hh, g, d, tt, os⟩ := s
  have T1 : PySem.W.Looks (model X.prog X.w) hh (typeOf (.ref a)) (.ref C) := J.type
  have T2 : PySem.W.Looks (model X.prog X.w) hh (typeOf (.ref b)) (.ref C) := J2.type
  have T3 : PySem.W.Looks (model X.prog X.w) hh (fillsNumberSlot (.ref C) "add") true := PySem.W.fills_K K0 hcd hmro hm.at_
  unfold binaryOp
  refine wpAny_holding (wpAny_bind ?_)
  show wpAny _ _ (binaryOp1 "add" _ _) _ _ _
  unfold binaryOp1
  refine wpAny_bind (T1.at (wpAny_bind (T2.at (wpAny_bind (T3.at ?_)))))
  simp only [beq_self_eq_true, if_true]
  ksp_lk
  refine wpAny_mono one (fun r s' hr' => ?_) fun _ _ q => q
  obtain ⟨v, rfl, q⟩ := hr'
  ksp_lk
  exact q
end
/-! ### their mirrors -/
def negO (c : Str) (mm : List D → Hd → Option (Rs D)) : D → Hd → Option (Rs D) := fun x M => match x with
  | .ref i => (match M[i]? with
    | some (.ins c' fs) => if c' = c then mm [.ref i] M else none
    | _ => none)
  | _ => none
def lenO (c : Str) (mm : List D → Hd → Option (Rs D)) : D → Hd → Option (Rs D) := fun x M => match x with
  | .ref i => (match M[i]? with
    | some (.ins c' fs) => if c' = c then bnd (mm [.ref i] M) fun d M1 => (match d with
      | .int n => if 0 ≤ n ∧ n < 2 ^ 63 then some (.ok (.int n) M1) else none
      | _ => none) else none
    | _ => none)
  | _ => none
def addO (c : Str) (mm : List D → Hd → Option (Rs D)) : G2 := fun x y M => match x, y with
  | .ref i, .ref j => (match M[i]?, M[j]? with
    | some (.ins c1 fs), some (.ins c2 gs) => if c1 = c ∧ c2 = c then mm [.ref i, .ref j] M else none
    | _, _ => none)
  | _, _ => none
/-- a class that stands first in its own order of search -/
def SelfF (K : PySem.W.Frag) (mg : Str → Option Value) (c : Str) : Prop := ∀ C, mg c = some (.ref C) → PySem.W.selfFirst K C = true
def selfB (K : PySem.W.Frag) (c : Str) : Bool := PySem.W.selfFirst K (He.ga K c)
theorem selfF_of {K : PySem.W.Frag} {mg : Str → Option Value} {c : Str} (g : mg c = some (.ref (He.ga K c))) (h : selfB K c = true) : SelfF K mg c := fun C e => by
  rw [g] at e
  cases e
  exact h
section
variable {X : Cx} {z : Zx} {W : WX} {a b e : Expr} {fa fb : EF} {c : Str} {k n : Nat} {mm : List D → Hd → Option (Rs D)} {p' pos : Pos}
theorem de_negO (F : Mth X.prog X.w X.K X.mg X.base k c "__neg__" n mm) (tk : Takes X W) (hr : Room k X.A) (ha : DE X z W a fa) : DE X z W (.UnaryOp .USub a pos) (eUn (negO c mm) fa) := by
  obtain ⟨C, f, fd, ps, h1, h2, h3, h4, h5⟩ := F.ex
  constructor
  intro pins s σ H Q I g
  refine UnaryOp_ (thn (ha.run pins s σ H (fun v H1 => ∃ a dx fs, v = .ref a ∧ H1 a = some (.ins C dx fs) ∧ spD X.K X.mg n mm [.ref a] H1 Q (fun cls d H' => W cls d σ H')) I ?_) ?_)
  · obtain ⟨p, M, ρ, o, R, L, e, po⟩ := g
    refine gE_bnd R L e po fun d M1 p1 H1 v R1 L1 hl1 hp1 q1 e1 po1 => ?_
    unfold negO at e1
    cases d with
    | ref i =>
      dsimp only at e1
      split at e1
      · rename_i c' fs hi
        split at e1
        · rename_i hcc
          subst hcc
          obtain ⟨a, dx, ws, rfl, _, g2, g3⟩ := rep_ins R1 q1 hi h1
          exact ⟨a, dx, ws, rfl, g2, sp_of R1 (reps_cons q1 reps_nil) (F.ln _ _ _ e1) e1 po1⟩
        · cases e1
      · cases e1
    | _ => cases e1
  · rintro u s1 ⟨_, H1, I1, ru, a, dx, fs, rfl, there, q⟩
    cases ru
    exact neg_own I1 there h3 (run_fnAt h5 hr I1.env0 h4 (passAt tk σ) I1 (show Vals [V.ref a] [Value.ref a] from .cons rfl .nil) q)
theorem de_addO (F : Mth X.prog X.w X.K X.mg X.base k c "__add__" n mm) (S : SelfF X.K X.mg c) (tk : Takes X W) (hr : Room k X.A) (ha : DE X z W a fa) (hb : DE X z W b fb) : DE X z W (.BinOp a .Add b pos) (eOp (addO c mm) fa fb) := by
  obtain ⟨C, f, fd, ps, h1, h2, h3, h4, h5⟩ := F.ex
  constructor
  intro pins s σ H Q I g
  have g' : gE (Cx.k X z) W (rD (Cx.k X z)) fa σ H fun x H1 => gE (Cx.k X z) W (rD (Cx.k X z)) fb σ H1 fun y H2 => ∃ a b dx dy fs gs, x = .ref a ∧ y = .ref b ∧ H2 a = some (.ins C dx fs) ∧ H2 b = some (.ins C dy gs) ∧ spD X.K X.mg n mm [.ref a, .ref b] H2 Q (fun cls d H' => W cls d σ H') := by
    obtain ⟨p, M, ρ, o, R, L, e, po⟩ := g
    refine gE_bnd R L e po fun d M1 p1 H1 v R1 L1 hl1 hp1 q1 e1 po1 => ?_
    refine gE_bnd R1 L1 e1 po1 fun d2 M2 p2 H2 v2 R2 L2 hl2 hp2 q2 e2 po2 => ?_
    have q1' := Rep.up hp2 hl2 _ q1
    unfold addO at e2
    cases d with
    | ref i =>
      cases d2 with
      | ref j =>
        dsimp only at e2
        split at e2
        · rename_i c1 fs c2 gs hi hj
          split at e2
          · rename_i hcc
            obtain ⟨rfl, rfl⟩ := hcc
            obtain ⟨a, dx, ws, rfl, _, g2, g3⟩ := rep_ins R2 q1' hi h1
            obtain ⟨b, dy, ws2, rfl, _, k2, k3⟩ := rep_ins R2 q2 hj h1
            exact ⟨a, b, dx, dy, ws, ws2, rfl, rfl, g2, k2, sp_of R2 (reps_cons q1' (reps_cons q2 reps_nil)) (F.ln _ _ _ e2) e2 po2⟩
          · cases e2
        · cases e2
      | _ => cases e2
    | _ => cases e2
  refine wpAny_BinOp (binT ha hb I g' fun v u s2 x y H2 I2 rx ry q => ?_)
  obtain ⟨a, b, dx, dy, fs, gs, rfl, rfl, ea, eb, q⟩ := q
  cases rx
  cases ry
  refine add_own I2 ea eb h3 (S C h1) (wpAny_mono (run_fnAt h5 hr I2.env0 h4 (passAt tk σ) I2 (show Vals [V.ref a, V.ref b] [Value.ref a, Value.ref b] from .cons rfl (.cons rfl .nil)) q) ?_ fun _ _ q => q)
  rintro w s3 ⟨y, H3, I3, ry, hq⟩
  have : ∃ u, w = u ∧ u ≠ .notImplemented := ⟨w, rfl, fun e => by
    subst e
    cases y <;> first | exact nomatch ry | (obtain ⟨_, q⟩ := ry; exact nomatch q)⟩
  obtain ⟨u, rfl, hu⟩ := this
  cases w <;> first | exact (hu rfl).elim | exact ⟨y, H3, I3, ry, hq⟩
theorem de_lenO (F : Mth X.prog X.w X.K X.mg X.base k c "__len__" n mm) (tk : Takes X W) (hr : Room (k + 1) X.A) (ha : DE X z W e fa) (hm : X.mg "len" = none) (hg : Gl X "len" := by rfl) (he : starEach [e] X.env = (false, eval e X.env) :: starEach [] X.env := by rfl) : DE X z W (.Call (.Name "len" p') [e] [] pos) (eUn (lenO c mm) fa) := by
  obtain ⟨C, f, fd, ps, h1, h2, h3, h4, h5⟩ := F.ex
  constructor
  intro pins s σ H Q I g
  have g' : gE (Cx.k X z) W (rD (Cx.k X z)) fa σ H fun v H1 => ∃ w, [v] = [w] ∧ ∃ a dx fs, w = .ref a ∧ H1 a = some (.ins C dx fs) ∧ spD X.K X.mg n mm [.ref a] H1 (fun v H2 => ∃ n : Int, v = .int n ∧ 0 ≤ n ∧ n < 2 ^ 63 ∧ Q v H2) (fun cls d H' => W cls d σ H') := by
    obtain ⟨p, M, ρ, o, R, L, e, po⟩ := g
    refine gE_bnd R L e po fun d M1 p1 H1 v R1 L1 hl1 hp1 q1 e1 po1 => ?_
    unfold lenO at e1
    cases d with
    | ref i =>
      dsimp only at e1
      split at e1
      · rename_i c' fs hi
        split at e1
        · rename_i hcc
          subst hcc
          obtain ⟨a, dx, ws, rfl, _, g2, g3⟩ := rep_ins R1 q1 hi h1
          refine ⟨.ref a, rfl, a, dx, ws, rfl, g2, ?_⟩
          cases em : mm [.ref i] M1 with
          | none => rw [em] at e1; cases e1
          | some o2 =>
            rw [em] at e1
            refine ⟨p1, M1, _, o2, R1, reps_cons q1 reps_nil, F.ln _ _ _ em, em, ?_⟩
            cases o2 with
            | er c2 M2 =>
              cases e1
              exact po1
            | ok d M2 =>
              rw [bnd_ok] at e1
              cases d with
              | int n =>
                dsimp only at e1
                split at e1
                · rename_i hn
                  cases e1
                  intro p2 H2 v hp hl R3 hv
                  have hv' : v = .int n := by unfold Rep at hv; exact hv
                  exact ⟨n, hv', hn.1, hn.2, po1 p2 H2 v hp hl R3 hv⟩
                · cases e1
              | _ => cases e1
        · cases e1
      · cases e1
    | _ => cases e1
  refine wpAny_Call_Name_kw (ld_blt I hg hm PySem.boot_len ?_ (by decide) (by decide))
  refine PyProof.Rows.callWith_builtin1 (thn ((pa_cons ha pa_nil he).run pos pins s σ H (fun vs H1 => ∃ w, vs = [w] ∧ ∃ a dx fs, w = .ref a ∧ H1 a = some (.ins C dx fs) ∧ spD X.K X.mg n mm [.ref a] H1 (fun v H2 => ∃ n : Int, v = .int n ∧ 0 ≤ n ∧ n < 2 ^ 63 ∧ Q v H2) (fun cls d H' => W cls d σ H')) I g') ?_) he rfl
  · rintro us s1 ⟨vs, H1, I1, r, v, rfl, a, dx, fs, rfl, there, q⟩
    obtain ⟨u, rfl, ru⟩ := vals1 r
    cases ru
    refine len_own I1 there h3 (wpAny_mono (run_fnAt h5 hr.in1 I1.env0.in1 h4 (passAt tk σ) I1 (show Vals [V.ref a] [Value.ref a] from .cons rfl .nil) q) ?_ fun _ _ q => q)
    rintro w s3 ⟨y, H3, I3, ry, n, rfl, n0, n1, hq⟩
    obtain ⟨t, rfl⟩ := ry
    exact ⟨n, t, rfl, n0, n1, .int n, H3, I3.tok _, ⟨_, rfl⟩, hq⟩
end
end DI

end

section
set_option Elab.async false
set_option linter.all false
set_option maxRecDepth 100000
set_option maxHeartbeats 4000000
/-! DI19: max of three ints, d[k] = v of dicts with text keys, either of two mirrors. -/
namespace DI
open PySem PySem.Spec PyProof.Rows L2

/-! ### either mirror -/
def Or2 (f f1 f2 : EF) : Prop := ∀ r M o, f r M = some o → f1 r M = some o ∨ f2 r M = some o
theorem de_two {X : Cx} {z : Zx} {W : WX} {e : Expr} {f f1 f2 : EF} (h1 : DE X z W e f1) (h2 : DE X z W e f2) (h : Or2 f f1 f2) : DE X z W e f := by
  constructor
  intro pins s σ H Q I g
  obtain ⟨p, M, ρ, o, R, L, e, po⟩ := g
  rcases h _ _ _ e with e | e
  · exact h1.run pins s σ H Q I ⟨p, M, ρ, o, R, L, e, po⟩
  · exact h2.run pins s σ H Q I ⟨p, M, ρ, o, R, L, e, po⟩
/-- x[i] of a list, a tuple, a text, or of a dict with text keys -/
def ixdG : G2 := fun x y M => match y with
  | .str s => dgetG x (.str s) M
  | y => ixG x y M
theorem or_ixd {fa fb : EF} : Or2 (eOp ixdG fa fb) (eOp ixG fa fb) (eOp dgetG fa fb) := by
  intro r M o e
  unfold eOp at e ⊢
  cases ea : fa r M with
  | none => rw [ea] at e; cases e
  | some x =>
    rw [ea] at e
    cases x with
    | er c M1 => exact .inl e
    | ok x M1 =>
      rw [bnd_ok] at e
      simp only [bnd_ok]
      cases eb : fb r M1 with
      | none => rw [eb] at e; cases e
      | some y =>
        rw [eb] at e
        cases y with
        | er c M2 => exact .inl e
        | ok y M2 =>
          rw [bnd_ok] at e
          simp only [bnd_ok]
          cases y with
          | str s => exact .inr e
          | _ => exact .inl e
/-! ### max of three -/
def max3 : List D → Hd → Option (Rs D) := fun ds M => match ds with
  | [.int i, .int j, .int k] => some (.ok (.int (if k > (if j > i then j else i) then k else (if j > i then j else i))) M)
  | _ => none
@[simp] theorem max3_int {i j k : Int} {M : Hd} : max3 [.int i, .int j, .int k] M = some (.ok (.int (if k > (if j > i then j else i) then k else (if j > i then j else i))) M) := rfl
theorem ga3 {k : Kx} {p : List Addr} {H : Hp} {i j l : Int} {vs : List V} (q : Reps k.K p H [.int i, .int j, .int l] vs) : vs = [.int i, .int j, .int l] := by
  unfold Reps at q
  obtain ⟨v, ws, rfl, a, q⟩ := q
  rw [ga2 (k := k) q]
  unfold Rep at a
  rw [a]
theorem nu3 {i j k : Int} : nuMax3 (.int i) (.int j) (.int k) = some (V.int (if k > (if j > i then j else i) then k else (if j > i then j else i))) := by
  have two : ∀ a b : Int, nuMax2 (.int a) (.int b) = some (V.int (if b > a then b else a)) := fun a b => by
    unfold nuMax2 nuLt nuCB
    simp only [Option.map_some]
    by_cases h : a < b
    · rw [decide_eq_true h, if_pos rfl, if_pos h]
    · rw [decide_eq_false h, if_neg Bool.false_ne_true, if_neg h]
  unfold nuMax3
  rw [two]
  show nuMax2 (V.int _) (.int k) = _
  rw [two]
section
variable {X : Cx} {z : Zx} {W : WX} {e : Expr} {es : List Expr} {g : AF} {pos : Pos}
theorem de_max3 {p' : Pos} (hc : X.calm = true) (ha : DA X z W (e :: es) g) (hm : X.mg "max" = none) (hg : Gl X "max" := by rfl) (he : starEach (e :: es) X.env = (false, eval e X.env) :: starEach es X.env := by rfl) (hpl : (backTo pos (starEach es X.env)).any (·.1) = false := by rfl) :
    DE X z W (.Call (.Name "max" p') (e :: es) [] pos) (eCB max3 g) := by
  refine (pe_callB (call_max3Nu hc) hg hm PyProof.Rows.boot_max ha (he := he) (hpl := hpl)).imp ?_
  rintro σ H Q ⟨p, M, ρ, o, R, L, e, po⟩
  refine gE_bnd R L e po fun d M1 p1 H1 v R1 L1 hl1 hp1 q1 e1 po1 => ?_
  unfold max3 at e1
  split at e1
  · cases e1
    exact ⟨_, _, _, _, ga3 (k := Cx.k X z) q1, nu3, po1.ok R1 rep_int⟩
  · cases e1
end
/-! ### d[k] = v -/
def putS (s : Str) (d : D) (kvs : List (Str × D)) : List (Str × D) := if (kvs.any fun x => decide (x.1 = s)) = true then kvs.map (fun x => if x.1 = s then (x.1, d) else x) else kvs ++ [(s, d)]
def sPutD (f fo fi : EF) : SF := fun r M => exB (f r M) r fun d M1 => exB (fo r M1) r fun o M2 => exB (fi r M2) r fun i M3 => match o, i with
  | .ref p, .str s => (match M3[p]? with
    | some (.dic kvs) => if kvs.length < 15 then some (.nx r, M3.set p (.dic (putS s d kvs))) else none
    | _ => none)
  | _, _ => none
section
variable {K : PySem.W.Frag} {p : List Addr} {H : Hp} {s : Str} {d : D} {v : V}
theorem put_any : ∀ {kvs : List (Str × D)} {ws : List (Key × V)}, Paired (fun (x : Str × D) (y : Key × V) => y.1 = Sum.inr x.1 ∧ Rep K p H x.2 y.2) kvs ws → (ws.any fun y => decide (y.1 = Sum.inr s)) = kvs.any fun x => decide (x.1 = s)
  | _, _, .nil => rfl
  | (x, e) :: kvs, (y, u) :: ws, .cons h t => by
    obtain ⟨h1, h2⟩ := h
    have h1 : y = Sum.inr x := h1
    subst h1
    rw [List.any_cons, List.any_cons, put_any t]
    congr 1
    by_cases hx : x = s
    · rw [decide_eq_true hx, decide_eq_true (by rw [hx])]
    · rw [decide_eq_false hx, decide_eq_false fun q => hx (Sum.inr.inj q)]
theorem put_map (hd : Rep K p H d v) : ∀ {kvs : List (Str × D)} {ws : List (Key × V)}, Paired (fun (x : Str × D) (y : Key × V) => y.1 = Sum.inr x.1 ∧ Rep K p H x.2 y.2) kvs ws →
    Paired (fun (x : Str × D) (y : Key × V) => y.1 = Sum.inr x.1 ∧ Rep K p H x.2 y.2) (kvs.map fun x => if x.1 = s then (x.1, d) else x) (ws.map fun y => if y.1 = Sum.inr s then (y.1, v) else y)
  | _, _, .nil => .nil
  | (x, e) :: kvs, (y, u) :: ws, .cons h t => by
    obtain ⟨h1, h2⟩ := h
    have h1 : y = Sum.inr x := h1
    subst h1
    rw [List.map_cons, List.map_cons]
    refine .cons ?_ (put_map hd t)
    by_cases hx : x = s
    · subst hx
      rw [if_pos rfl, if_pos rfl]
      exact ⟨rfl, hd⟩
    · rw [if_neg hx, if_neg fun q => hx (Sum.inr.inj q)]
      exact ⟨rfl, h2⟩
theorem put_end (hd : Rep K p H d v) : ∀ {kvs : List (Str × D)} {ws : List (Key × V)}, Paired (fun (x : Str × D) (y : Key × V) => y.1 = Sum.inr x.1 ∧ Rep K p H x.2 y.2) kvs ws →
    Paired (fun (x : Str × D) (y : Key × V) => y.1 = Sum.inr x.1 ∧ Rep K p H x.2 y.2) (kvs ++ [(s, d)]) (ws ++ [(Sum.inr s, v)])
  | _, _, .nil => .cons ⟨rfl, hd⟩ .nil
  | _ :: _, _ :: _, .cons h t => .cons h (put_end hd t)
theorem put_pair (hd : Rep K p H d v) {kvs : List (Str × D)} {ws : List (Key × V)} (h : Paired (fun (x : Str × D) (y : Key × V) => y.1 = Sum.inr x.1 ∧ Rep K p H x.2 y.2) kvs ws) :
    Paired (fun (x : Str × D) (y : Key × V) => y.1 = Sum.inr x.1 ∧ Rep K p H x.2 y.2) (putS s d kvs) (putK ws (Sum.inr s) v) := by
  unfold putS putK
  rw [put_any h]
  by_cases hx : (kvs.any fun x => decide (x.1 = s)) = true
  · rw [if_pos hx, if_pos hx]
    exact put_map hd h
  · rw [if_neg hx, if_neg hx]
    exact put_end hd h
end
section
variable {X : Cx} {z : Zx} {W : WX} {o i e : Expr} {fo fi fe : EF} {pos pos' : Pos}
theorem ds_putD (hu : X.A.units + 1 < cLine) (he : DE X z W e fe) (ho : DE X z W o fo) (hi : DE X z W i fi) (hs : swapsWith e (some (.Subscript o i pos')) pos.line X.env = pure false := by rfl) : DS X z W (.Assign [.Subscript o i pos'] e pos) (sPutD fe fo fi) := by
  refine (ps_dput hu ho hi he hs).imp ?_
  rintro Dn σ H ⟨p, M, ρ, oo, R, L, e, po⟩
  unfold sPutD at e
  refine gE_exB R L e po fun d M1 p1 H1 v R1 L1 hl1 hp1 q1 e1 po1 => ?_
  refine gE_exB R1 L1 e1 po1 fun d2 M2 p2 H2 v2 R2 L2 hl2 hp2 q2 e2 po2 => ?_
  refine gE_exB R2 L2 e2 po2 fun d3 M3 p3 H3 v3 R3 L3 hl3 hp3 q3 e3 po3 => ?_
  cases d2 with
  | ref i =>
    cases d3 with
    | str s =>
      dsimp only at e3
      split at e3
      · rename_i kvs hk
        split at e3
        · rename_i hlen
          cases e3
          have q2' := Rep.up hp3 hl3 _ q2
          have q1' := Rep.up hp3 hl3 _ (Rep.up hp2 hl2 _ q1)
          unfold Rep at q2' q3
          obtain ⟨a, ha, rfl⟩ := q2'
          obtain ⟨b, hb, ws, w1, w2⟩ := R3.ob i _ hk
          rw [ha] at hb
          cases hb
          subst q3
          obtain ⟨R4, hl4⟩ := R3.put (u := .dK (putK ws (Sum.inr s) v)) (o := .dic (putS s d kvs)) ha fun hl => ⟨_, upd_same, put_pair (Rep.up (List.prefix_refl _) hl _ q1') (paired_mono (fun x y q => ⟨q.1, Rep.up (List.prefix_refl _) hl _ q.2⟩) w2)⟩
          have hz : ws.length < sizeLine := by rw [← paired_len w2, sizeLine_eq]; omega
          exact ⟨a, _, rfl, DPut.k (k := Sum.inr s) w1 hz, po3 p3 _ σ (List.prefix_refl p3) hl4 R4 (L3.up (List.prefix_refl p3) hl4)⟩
        · cases e3
      · cases e3
    | _ => cases e3
  | _ => cases e3
end
end DI

end

section
set_option Elab.async false
set_option linter.all false
set_option maxRecDepth 100000
set_option maxHeartbeats 4000000
/-! DI20: names = a list; isinstance of an instance and its own class. -/
namespace DI
open PySem PySem.Spec PyProof.Rows L2
def sAsgL (l : List Nat) (f : EF) : SF := fun r M => exB (f r M) r fun d M1 => match d with
  | .ref i => (match M1[i]? with
    | some (.lst ds) => (match setAll l ds r with
      | some r1 => some (.nx r1, M1)
      | none => none)
    | _ => none)
  | _ => none
def gL (k : Kx) (l : List Nat) : TG := fun v σ H Q => ∃ p M r i ds r1, Rl k.K k.mg p M H ∧ Sl k.K k.z p H r σ ∧ Rep k.K p H (.ref i) v ∧ M[i]? = some (.lst ds) ∧ setAll l ds r = some r1 ∧
  ∀ σ', Sl k.K k.z p H r1 σ' → Q σ' H
theorem setAll_len : ∀ (l : List Nat) (ds : List D) (r r1 : Ev), setAll l ds r = some r1 → ds.length = l.length
  | [], [], _, _, _ => rfl
  | [], _ :: _, _, _, e => nomatch e
  | _ :: _, [], _, _, e => nomatch e
  | i :: l, d :: ds, r, r1, e => by rw [List.length_cons, List.length_cons, setAll_len l ds _ _ e]
section
variable {X : Cx} {z : Zx} {W : WX} {a b c e : Expr} {fa fb fc f : EF} {pos : Pos}
theorem dg_lst {es : List Expr} {kk : Nat} {l : List Nat} {n : Nat} (hc : X.calm = true) (h : DGs X z es l) (hl : l.length = n := by rfl) (hn : (assignEach es X.env).length = n := by rfl) (hst : (assignEach es X.env).findIdx? (·.1) = none := by rfl) : PG X (.Tuple es kk pos) (gL (Cx.k X z) l) := by
  refine (pg_unl (n := n) hc h hn hst).imp ?_
  rintro v σ H Q ⟨p, M, r, i, ds, r1, R, L, q, g, e, k⟩
  obtain ⟨a, vs, rfl, _, s, rr⟩ := rep_lst R q g
  exact ⟨a, vs, rfl, SqL.of s, by rw [← reps_len rr, setAll_len l ds r r1 e, hl], p, M, r, ds, r1, R, L, rr, e, fun σ' L' _ => k σ' L'⟩
theorem ds_asgL {es : List Expr} {kk : Nat} {p2 : Pos} {l : List Nat} (he : DE X z W e f) (hg : PG X (.Tuple es kk p2) (gL (Cx.k X z) l)) (hs : swapsWithSole [.Tuple es kk p2] e pos.line X.env = pure false := by rfl) (hw : swappedStores [.Tuple es kk p2] e X.env = pure none := by rfl)
    (h1 : (assignEach [.Tuple es kk p2] X.env).map (·.2) = [assign (.Tuple es kk p2) X.env] := by rfl) : DS X z W (.Assign [.Tuple es kk p2] e pos) (sAsgL l f) := by
  refine (ps_asg he hg hs hw h1).imp ?_
  rintro Dn σ H ⟨p, M, ρ, o, R, L, e, po⟩
  refine gE_exB R L e po fun d M1 p1 H1 v R1 L1 hl1 hp1 q1 e1 po1 => ?_
  cases d with
  | ref i =>
    dsimp only at e1
    split at e1
    · rename_i ds hg
      split at e1
      · rename_i r1 hr1
        cases e1
        exact ⟨p1, M1, ρ, i, ds, r1, R1, L1, q1, hg, hr1, fun σ' L' => po1.nx R1 L'⟩
      · cases e1
    · cases e1
  | _ => cases e1
/-! ### isinstance(x, c), c an own class: x is of this class, or a plain thing -/
def isoG (c : Str) : D → Hd → Option (Rs D) := fun d M => match d with
  | .ref i => (match M[i]? with
    | some (.ins c' _) => if c' = c then some (.ok (.bl true) M) else none
    | _ => none)
  | _ => none
structure InsF (K : PySem.W.Frag) (mg : Str → Option Value) (c : Str) : Prop where
  ex : ∃ C, mg c = some (.ref C) ∧ C8.InsC K C
theorem de_iso {x : Str} {p' p2 : Pos} (F : InsF X.K X.mg x) (ha : DE X z W e f) (hm : X.mg "isinstance" = none) (hg : Gl X "isinstance" := by rfl) (hgT : Gl X x := by rfl) (hdb : (x == ("__debug__" : Str)) = false := by decide)
    (he : starEach [e, .Name x p2] X.env = (false, eval e X.env) :: starEach [.Name x p2] X.env := by rfl) (hpl : (backTo pos (starEach [.Name x p2] X.env)).any (·.1) = false := by rfl) (he2 : starEach [.Name x p2] X.env = (false, eval (.Name x p2) X.env) :: starEach [] X.env := by rfl) :
    DE X z W (.Call (.Name "isinstance" p') [e, .Name x p2] [] pos) (eUn (isoG x) f) := by
  obtain ⟨C, hC, ic⟩ := F.ex
  refine (pe_callB (C8.call_isC ic) hg hm PyProof.Rows.boot_isinstance (pa_cons ha (pa_cons (pe_glob (v := .ref C) hgT hC rfl hdb) pa_nil he2) he) (he := he) (hpl := hpl)).imp ?_
  rintro σ H Q ⟨p, M, ρ, o, R, L, e, po⟩
  refine gE_bnd R L e po fun d M1 p1 H1 v R1 L1 hl1 hp1 q1 e1 po1 => ?_
  unfold isoG at e1
  cases d with
  | ref i =>
    dsimp only at e1
    split at e1
    · rename_i c' fs hg
      split at e1
      · rename_i hcc
        subst hcc
        cases e1
        unfold Rep at q1
        obtain ⟨a, ha, rfl⟩ := q1
        obtain ⟨o, ho, hO⟩ := R1.there ha
        rw [hg] at ho
        cases ho
        obtain ⟨C', dx, ws, hC', hH, _⟩ := hO
        have hC2 : X.mg c' = some (.ref C') := hC'
        rw [hC] at hC2
        cases hC2
        exact ⟨a, dx, ws, rfl, hH, po1.ok R1 rep_bl⟩
      · cases e1
    · cases e1
  | _ => cases e1
end
def insB (K : PySem.W.Frag) (x : Str) : Bool :=
  He.eqO (PySem.W.findIn K (.ref (He.ga K x)) "__class__") (some (some (.builtin "object.__class__"))) && (He.eqO (PySem.W.specialIn K (.builtin "object.__class__") "__get__") (some (some (.builtin "getset_descriptor.__get__"))) && (decide (PySem.W.takesIn K (.builtin "object.__class__") = some true) && (decide (PySem.W.mroIn K (He.ga K x) (.type "object") = some true) && decide (PySem.W.kitOne K (.ref (He.ga K x)) (.ref (He.ga K x)) = some true))))
theorem insF_of {K : PySem.W.Frag} {mg : Str → Option Value} {x : Str} (g : mg x = some (.ref (He.ga K x))) (c : Cls K (He.ga K x)) (h : insB K x = true) : InsF K mg x := by
  obtain ⟨h1, h⟩ := He.ba h
  obtain ⟨h2, h⟩ := He.ba h
  obtain ⟨h3, h⟩ := He.ba h
  obtain ⟨h4, h5⟩ := He.ba h
  exact ⟨⟨_, g, c, He.eqO_ok h1, He.eqO_ok h2, of_decide_eq_true h3, of_decide_eq_true h4, of_decide_eq_true h5⟩⟩
end DI

end

section
set_option Elab.async false
set_option linter.all false
set_option maxRecDepth 100000
set_option maxHeartbeats 4000000
/-! DI21: a def that goes by another name of the module. -/
namespace DI
open PySem PySem.Spec PyProof.Rows L2
theorem dfn_as {P : Program} {w : World} {K : PySem.W.Frag} {mg : Str → Option Value} {base : Heap} {x y qual : Str} {params : Arguments} {body : List Stmt} {scope : Scope} {f : Addr} {fd : FuncData} {N ps : List Str} {k : Nat} {g : SF}
    (F : FunD K x qual params body scope [] [] f fd) (hmg : mg y = some (.ref f)) (hb : Binds K fd ps []) (h : FnOk P w K mg base (L2.CX P w) k f fd ps (spD K mg ps.length (mir N.length ps.length g))) : Dfn P w K mg base k y ps.length (mir N.length ps.length g) :=
  ⟨fun ds M o e => mir_len e, f, fd, ps, hmg, F.kp, hb, h⟩
end DI

end

section
set_option Elab.async false
set_option linter.all false
set_option maxRecDepth 100000
set_option maxHeartbeats 4000000
namespace G
open PySem PySem.Spec PyProof.Rows L2 DI
def top (i : Nat) : Stmt := PySem.Challenge.pw_brimful_k37_trees_are_checked.main.body.getD i (.Pass ⟨0, 0, 0, 0⟩)
def mth (i j : Nat) : Stmt := match top i with
  | .ClassDef _ _ _ b _ _ _ _ _ _ _ => b.getD j (.Pass ⟨0, 0, 0, 0⟩)
  | s => s
abbrev s__law_mixed : Stmt := top 43
abbrev s__law_draw : Stmt := top 45
abbrev s__law_table : Stmt := top 46
abbrev s__law_tree : Stmt := top 47
abbrev s__law_bad_number : Stmt := top 48
abbrev s__law_bad_table : Stmt := top 49
abbrev s__law_spoilt : Stmt := top 50
abbrev s__law_comb : Stmt := top 51
abbrev s__law_broad : Stmt := top 52
abbrev s__law_given : Stmt := top 54
abbrev s__law_numbers : Stmt := top 44
abbrev s_is_integer : Stmt := top 9
abbrev s_is_number : Stmt := top 10
abbrev s_is_leaf : Stmt := top 33
abbrev s_is_table : Stmt := top 16
abbrev s_is_inner : Stmt := top 34
abbrev s_listed : Stmt := top 32
abbrev s_rows_of : Stmt := top 35
abbrev s_tree_value : Stmt := top 37
abbrev s_check_tree : Stmt := top 36
abbrev s_is_prime : Stmt := top 11
abbrev s_prime_of : Stmt := top 38
abbrev s_tree_cost : Stmt := top 39
abbrev s_is_factor : Stmt := top 15
abbrev s_is_add : Stmt := top 17
abbrev s_is_look : Stmt := top 18
abbrev s_inverse_of : Stmt := top 12
abbrev s_is_step : Stmt := top 19
abbrev s_check_steps : Stmt := top 21
abbrev s_Program___init__ : Stmt := mth 27 0
abbrev s_round_tasks : Stmt := top 40
abbrev s_compile_tree : Stmt := top 41
abbrev s__law_refused : Stmt := top 53
abbrev s_law : Stmt := top 55
end G
namespace E
open PySem PySem.Spec PyProof.Rows L2 DI G
def e__law_mixed : He.DefD := ⟨("_law_mixed", none), "_law_mixed", "_law_mixed", defArgs s__law_mixed, defBody s__law_mixed, defScope s__law_mixed, [], []⟩
def e__law_draw : He.DefD := ⟨("_law_draw", none), "_law_draw", "_law_draw", defArgs s__law_draw, defBody s__law_draw, defScope s__law_draw, [], []⟩
def e__law_table : He.DefD := ⟨("_law_table", none), "_law_table", "_law_table", defArgs s__law_table, defBody s__law_table, defScope s__law_table, [], []⟩
def e__law_tree : He.DefD := ⟨("_law_tree", none), "_law_tree", "_law_tree", defArgs s__law_tree, defBody s__law_tree, defScope s__law_tree, [], []⟩
def e__law_bad_number : He.DefD := ⟨("_law_bad_number", none), "_law_bad_number", "_law_bad_number", defArgs s__law_bad_number, defBody s__law_bad_number, defScope s__law_bad_number, [], []⟩
def e__law_bad_table : He.DefD := ⟨("_law_bad_table", none), "_law_bad_table", "_law_bad_table", defArgs s__law_bad_table, defBody s__law_bad_table, defScope s__law_bad_table, [], []⟩
def e__law_spoilt : He.DefD := ⟨("_law_spoilt", none), "_law_spoilt", "_law_spoilt", defArgs s__law_spoilt, defBody s__law_spoilt, defScope s__law_spoilt, [], []⟩
def e__law_comb : He.DefD := ⟨("_law_comb", none), "_law_comb", "_law_comb", defArgs s__law_comb, defBody s__law_comb, defScope s__law_comb, [], []⟩
def e__law_broad : He.DefD := ⟨("_law_broad", none), "_law_broad", "_law_broad", defArgs s__law_broad, defBody s__law_broad, defScope s__law_broad, [], []⟩
def e__law_given : He.DefD := ⟨("_law_given", none), "_law_given", "_law_given", defArgs s__law_given, defBody s__law_given, defScope s__law_given, [], []⟩
def e__law_numbers : He.DefD := ⟨("_law_numbers", none), "_law_numbers", "_law_numbers", defArgs s__law_numbers, defBody s__law_numbers, defScope s__law_numbers, [], []⟩
def e_is_integer : He.DefD := ⟨("is_integer", none), "is_integer", "is_integer", defArgs s_is_integer, defBody s_is_integer, defScope s_is_integer, [], []⟩
def e_is_number : He.DefD := ⟨("is_number", none), "is_number", "is_number", defArgs s_is_number, defBody s_is_number, defScope s_is_number, [], []⟩
def e_is_leaf : He.DefD := ⟨("is_leaf", none), "is_leaf", "is_leaf", defArgs s_is_leaf, defBody s_is_leaf, defScope s_is_leaf, [], []⟩
def e_is_table : He.DefD := ⟨("is_table", none), "is_table", "is_table", defArgs s_is_table, defBody s_is_table, defScope s_is_table, [], []⟩
def e_is_inner : He.DefD := ⟨("is_inner", none), "is_inner", "is_inner", defArgs s_is_inner, defBody s_is_inner, defScope s_is_inner, [], []⟩
def e_listed : He.DefD := ⟨("listed", none), "listed", "listed", defArgs s_listed, defBody s_listed, defScope s_listed, [], []⟩
def e_rows_of : He.DefD := ⟨("rows_of", none), "rows_of", "rows_of", defArgs s_rows_of, defBody s_rows_of, defScope s_rows_of, [], []⟩
def e_tree_value : He.DefD := ⟨("tree_value", none), "tree_value", "tree_value", defArgs s_tree_value, defBody s_tree_value, defScope s_tree_value, [], []⟩
def e_check_tree : He.DefD := ⟨("check_tree", none), "check_tree", "check_tree", defArgs s_check_tree, defBody s_check_tree, defScope s_check_tree, [], []⟩
def e_is_prime : He.DefD := ⟨("is_prime", none), "is_prime", "is_prime", defArgs s_is_prime, defBody s_is_prime, defScope s_is_prime, [], []⟩
def e_prime_of : He.DefD := ⟨("prime_of", none), "prime_of", "prime_of", defArgs s_prime_of, defBody s_prime_of, defScope s_prime_of, [], []⟩
def e_tree_cost : He.DefD := ⟨("tree_cost", none), "tree_cost", "tree_cost", defArgs s_tree_cost, defBody s_tree_cost, defScope s_tree_cost, [], []⟩
def e_is_factor : He.DefD := ⟨("is_factor", none), "is_factor", "is_factor", defArgs s_is_factor, defBody s_is_factor, defScope s_is_factor, [], []⟩
def e_is_add : He.DefD := ⟨("is_add", none), "is_add", "is_add", defArgs s_is_add, defBody s_is_add, defScope s_is_add, [], []⟩
def e_is_look : He.DefD := ⟨("is_look", none), "is_look", "is_look", defArgs s_is_look, defBody s_is_look, defScope s_is_look, [], []⟩
def e_inverse_of : He.DefD := ⟨("inverse_of", none), "inverse_of", "inverse_of", defArgs s_inverse_of, defBody s_inverse_of, defScope s_inverse_of, [], []⟩
def e_is_step : He.DefD := ⟨("is_step", none), "is_step", "is_step", defArgs s_is_step, defBody s_is_step, defScope s_is_step, [], []⟩
def e_check_steps : He.DefD := ⟨("check_steps", none), "check_steps", "check_steps", defArgs s_check_steps, defBody s_check_steps, defScope s_check_steps, [], []⟩
def e_Program___init__ : He.DefD := ⟨("Program", some "__init__"), "__init__", "Program.__init__", defArgs s_Program___init__, defBody s_Program___init__, defScope s_Program___init__, [], []⟩
def e_round_tasks : He.DefD := ⟨("round_tasks", none), "round_tasks", "round_tasks", defArgs s_round_tasks, defBody s_round_tasks, defScope s_round_tasks, [], []⟩
def e_compile_tree : He.DefD := ⟨("compile_tree", none), "compile_tree", "compile_tree", defArgs s_compile_tree, defBody s_compile_tree, defScope s_compile_tree, [], []⟩
def e__law_refused : He.DefD := ⟨("_law_refused", none), "_law_refused", "_law_refused", defArgs s__law_refused, defBody s__law_refused, defScope s__law_refused, [], []⟩
def e_law : He.DefD := ⟨("law", none), "law", "law", defArgs s_law, defBody s_law, defScope s_law, [], []⟩
def fn : List He.DefD := [e__law_mixed, e__law_draw, e__law_table, e__law_tree, e__law_bad_number, e__law_bad_table, e__law_spoilt, e__law_comb, e__law_broad, e__law_given, e__law_numbers, e_is_integer, e_is_number, e_is_leaf, e_is_table, e_is_inner, e_listed, e_rows_of, e_tree_value, e_check_tree, e_is_prime, e_prime_of, e_tree_cost, e_is_factor, e_is_add, e_is_look, e_inverse_of, e_is_step, e_check_steps, e_Program___init__, e_round_tasks, e_compile_tree, e__law_refused, e_law]
def fa : List He.Fa := [.glo "_law_mixed", .free "len", .glo "_law_draw", .free "range", .free "tuple", .glo "_law_table", .glo "_law_tree", .glo "_law_bad_number", .free "list", .free "max", .free "min", .glo "_law_bad_table", .glo "_law_spoilt", .glo "_law_comb", .glo "_law_broad", .free "int", .glo "_law_given", .glo "_law_numbers", .free "isinstance", .free "bool", .glo "is_integer", .glo "is_number", .glo "is_leaf", .glo "is_table", .glo "is_inner", .int "NESTED"  40, .int "NODES"  200, .glo "BadTree", .exc "BadTree", .glo "listed", .int "VALUES"  40, .glo "rows_of", .glo "tree_value", .glo "check_tree", .glo "is_prime", .glo "prime_of", .glo "tree_cost", .glo "is_factor", .int "FACTORS"  3, .glo "is_add", .glo "is_look", .glo "inverse_of", .glo "is_step", .glo "BadStep", .exc "BadStep", .glo "check_steps", .int "MODULUS"  1000000000, .int "CELLS"  60, .int "INPUTS"  60, .int "STEPS"  20000, .noat "Program" "steps", .noat "Program" "inputs", .noat "Program" "cells", .noat "Program" "modulus", .glo "Program", .cls "Program", .mkr "Program", .glo "round_tasks", .glo "TooLong", .exc "TooLong", .glo "compile_tree", .glo "BrimfulError", .glo "BadSource", .glo "BadMemory", .exm "BadTree" "BadTree" true, .exm "TooLong" "BadTree" false, .exm "BadSource" "BadTree" false, .exm "BadMemory" "BadTree" false, .exm "BadStep" "BadTree" false, .exm "BrimfulError" "BadTree" false, .glo "_law_refused", .glo "law"]
def exl (K : PySem.W.Frag) : List Bool := [excB K "BadTree", kitB K "BadTree" (.ref (He.ga K "BrimfulError")) true, excB K "TooLong", kitB K "TooLong" (.ref (He.ga K "BrimfulError")) true, excB K "BadSource", kitB K "BadSource" (.ref (He.ga K "BrimfulError")) true, excB K "BadMemory", kitB K "BadMemory" (.ref (He.ga K "BrimfulError")) true, excB K "BadStep", kitB K "BadStep" (.ref (He.ga K "BrimfulError")) true, excB K "BrimfulError", kitB K "BrimfulError" (.ref (He.ga K "BrimfulError")) true, kitT K "BadTree" ["BadMemory", "BadSource", "BadStep", "TooLong"] false, kitT K "TooLong" ["BadMemory", "BadSource", "BadStep", "TooLong"] true, kitT K "BadSource" ["BadMemory", "BadSource", "BadStep", "TooLong"] true, kitT K "BadMemory" ["BadMemory", "BadSource", "BadStep", "TooLong"] true, kitT K "BadStep" ["BadMemory", "BadSource", "BadStep", "TooLong"] true, kitT K "BrimfulError" ["BadMemory", "BadSource", "BadStep", "TooLong"] false]
def ex (K : PySem.W.Frag) : Bool := (exl K).all id
abbrev R : PySem.W.OpenRow := PySem.W.OpenLaw.row PySem.Challenge.rw_brimful_k37_trees_are_checked
abbrev hk : PySem.W.Hook := DI.hookQ 5 fa fn ex
def ob (s : PySem.W.SharedT) : He.AlD × Bool := DI.obQ 5 fa fn ex (HandSHeadRun.getT s)
theorem ob_eq (s : PySem.W.SharedT) : ob s = hk.obs s.abs := DI.obQ_eq (HandSHeadRun.getT_eq s)
def loose : List Str := (["_wall", "BrimfulError", "BadStep", "BadMemory", "BadSource", "TooLong", "BadTree", "is_integer", "is_number", "is_prime", "inverse_of", "FACTORS", "is_factor", "is_table", "is_add", "is_look", "is_step", "inverse_step", "check_steps", "MODULUS", "CELLS", "INPUTS", "STEPS", "Program", "VALUES", "NODES", "NESTED", "listed", "is_leaf", "is_inner"] : List Str) ++ (["rows_of", "check_tree", "tree_value", "prime_of", "tree_cost", "round_tasks", "compile_tree", "_law_mixed", "_law_numbers", "_law_draw", "_law_table", "_law_tree", "_law_bad_number", "_law_bad_table", "_law_spoilt", "_law_comb", "_law_broad", "_law_refused", "_law_given"] : List Str)
theorem run (w : World) : HandSHeadRun.RunEq R (PySem.W.view R.prog [55]) hk ob 20000 loose w := by
  intro os
  kernel_rfl
end E

end

section
set_option Elab.async false
set_option linter.all false
set_option maxRecDepth 100000
set_option maxHeartbeats 4000000
/-! PL: plain reasoning about mirrors. -/
namespace DI
open PySem L2

/-- it comes to something of which Q holds -/
def Wp {α : Type} (x : Option α) (Q : α → Prop) : Prop := ∃ a, x = some a ∧ Q a
/-- what is wanted of a value, nothing raised -/
def okQ {α : Type} (Q : α → Hd → Prop) : Rs α → Prop
  | .ok a M => Q a M
  | .er _ _ => False
section
variable {α β : Type}
theorem Wp.imp {x : Option α} {Q R : α → Prop} (h : Wp x Q) (k : ∀ a, Q a → R a) : Wp x R := let ⟨a, e, q⟩ := h; ⟨a, e, k a q⟩
theorem Wp.ok {x : Option (Rs α)} {P : α → Hd → Prop} {Q : Rs α → Prop} (h : Wp x (okQ P)) (k : ∀ a M, P a M → Q (.ok a M)) : Wp x Q := by
  obtain ⟨o, e, q⟩ := h
  cases o with
  | ok a M => exact ⟨_, e, k a M q⟩
  | er c M => exact q.elim
theorem wp_law {x : Option (Rs D)} (h : Wp x (okQ fun d _ => d = .bl true)) : ∃ M, x = some (.ok (.bl true) M) := by
  obtain ⟨o, e, q⟩ := h
  cases o with
  | ok d M => exact ⟨M, by rw [e, q]⟩
  | er c M => exact q.elim
theorem wp_some {a : α} {Q : α → Prop} : Wp (some a) Q ↔ Q a := ⟨fun ⟨_, e, q⟩ => Option.some.inj e ▸ q, fun q => ⟨a, rfl, q⟩⟩
theorem wp_none {Q : α → Prop} : Wp none Q ↔ False := ⟨(fun ⟨_, e, _⟩ => nomatch e), False.elim⟩
theorem wp_ite {c : Prop} [Decidable c] {x y : Option α} {Q : α → Prop} : Wp (if c then x else y) Q ↔ if c then Wp x Q else Wp y Q := by split <;> rfl
theorem wp_bnd {x : Option (Rs α)} {k : α → Hd → Option (Rs β)} {Q : Rs β → Prop} : Wp (bnd x k) Q ↔ Wp x fun o => match o with
    | .ok a M => Wp (k a M) Q
    | .er c M => Q (.er c M) := by
  cases x with
  | none => simp [wp_none]
  | some o => cases o <;> simp [wp_some]
theorem wp_exB {x : Option (Rs α)} {r : Ev} {k : α → Hd → Option (Fl × Hd)} {Q : Fl × Hd → Prop} : Wp (exB x r k) Q ↔ Wp x fun o => match o with
    | .ok a M => Wp (k a M) Q
    | .er c M => Q (.xx c r, M) := by
  cases x with
  | none => simp [wp_none]
  | some o => cases o <;> simp [wp_some]
/-- x comes to o -/
theorem wp_of_eq {x : Option α} {o : α} {Q : α → Prop} (h : x = some o) (q : Q o) : Wp x Q := ⟨o, h, q⟩
theorem wp_ok {x : Option (Rs α)} {a : α} {M : Hd} {Q : Rs α → Prop} (h : x = some (.ok a M)) (q : Q (.ok a M)) : Wp x Q := ⟨_, h, q⟩
end
def nxQ (g : SF) (Q : Fl × Hd → Prop) : Fl × Hd → Prop := fun o => match o with
  | (.nx r, M) => Wp (g r M) Q
  | o => Q o
theorem wp_seq {f g : SF} {r : Ev} {M : Hd} {Q : Fl × Hd → Prop} : Wp (sSeq f g r M) Q ↔ Wp (f r M) (nxQ g Q) := by
  unfold sSeq
  cases f r M with
  | none => simp [wp_none]
  | some o => obtain ⟨fl, M1⟩ := o; cases fl <;> simp [wp_some, nxQ]
@[simp] theorem nxQ_nx {g : SF} {Q : Fl × Hd → Prop} {r : Ev} {M : Hd} : nxQ g Q (.nx r, M) ↔ Wp (g r M) Q := Iff.rfl
@[simp] theorem nxQ_rt {g : SF} {Q : Fl × Hd → Prop} {d : D} {M : Hd} : nxQ g Q (.rt d, M) ↔ Q (.rt d, M) := Iff.rfl
@[simp] theorem nxQ_bk {g : SF} {Q : Fl × Hd → Prop} {r : Ev} {M : Hd} : nxQ g Q (.bk r, M) ↔ Q (.bk r, M) := Iff.rfl
@[simp] theorem nxQ_ct {g : SF} {Q : Fl × Hd → Prop} {r : Ev} {M : Hd} : nxQ g Q (.ct r, M) ↔ Q (.ct r, M) := Iff.rfl
@[simp] theorem nxQ_xx {g : SF} {Q : Fl × Hd → Prop} {r : Ev} {c : Str} {M : Hd} : nxQ g Q (.xx c r, M) ↔ Q (.xx c r, M) := Iff.rfl
/-- a def's end -/
def fnQ (Q : Rs D → Prop) : Fl × Hd → Prop := fun o => match o with
  | (.rt d, M) => Q (.ok d M)
  | (.nx _, M) => Q (.ok .non M)
  | (.xx c _, M) => Q (.er c M)
  | _ => False
@[simp] theorem fnQ_rt {Q : Rs D → Prop} {d : D} {M : Hd} : fnQ Q (.rt d, M) ↔ Q (.ok d M) := Iff.rfl
@[simp] theorem fnQ_nx {Q : Rs D → Prop} {r : Ev} {M : Hd} : fnQ Q (.nx r, M) ↔ Q (.ok .non M) := Iff.rfl
@[simp] theorem fnQ_xx {Q : Rs D → Prop} {c : Str} {r : Ev} {M : Hd} : fnQ Q (.xx c r, M) ↔ Q (.er c M) := Iff.rfl
theorem wp_mir {n k : Nat} {g : SF} {ds : List D} {M : Hd} {Q : Rs D → Prop} (hk : ds.length = k) (h : Wp (g (startD n ds) M) (fnQ Q)) : Wp (mir n k g ds M) Q := by
  obtain ⟨o, e, q⟩ := h
  unfold mir
  rw [if_pos hk, e]
  obtain ⟨fl, M1⟩ := o
  cases fl with
  | nx r => exact ⟨_, rfl, q⟩
  | rt d => exact ⟨_, rfl, q⟩
  | xx c r => exact ⟨_, rfl, q⟩
  | bk r => exact q.elim
  | ct r => exact q.elim
/-! ### operators -/
section
variable {a b : Int} {M : Hd}
@[simp] theorem addG_int : addG (.int a) (.int b) M = some (.ok (.int (a + b)) M) := rfl
@[simp] theorem addIG_int : addIG (.int a) (.int b) M = some (.ok (.int (a + b)) M) := rfl
@[simp] theorem subG_int : subG (.int a) (.int b) M = some (.ok (.int (a - b)) M) := rfl
@[simp] theorem negG_int : negG (.int a) M = some (.ok (.int (-a)) M) := rfl
@[simp] theorem ltG_int : ltG (.int a) (.int b) M = some (.ok (.bl (decide (a < b))) M) := rfl
@[simp] theorem leG_int : leG (.int a) (.int b) M = some (.ok (.bl (decide (a ≤ b))) M) := rfl
@[simp] theorem gtG_int : gtG (.int a) (.int b) M = some (.ok (.bl (decide (b < a))) M) := rfl
@[simp] theorem geG_int : geG (.int a) (.int b) M = some (.ok (.bl (decide (b ≤ a))) M) := rfl
@[simp] theorem eqG_int : eqG (.int a) (.int b) M = some (.ok (.bl (decide (a = b))) M) := by rw [← Bool.beq_eq_decide_eq]; rfl
@[simp] theorem neG_int : neG (.int a) (.int b) M = some (.ok (.bl (!decide (a = b))) M) := by rw [← Bool.beq_eq_decide_eq]; rfl
@[simp] theorem eqG_str {x y : Str} : eqG (.str x) (.str y) M = some (.ok (.bl (decide (x = y))) M) := by rw [← Bool.beq_eq_decide_eq]; rfl
@[simp] theorem neG_str {x y : Str} : neG (.str x) (.str y) M = some (.ok (.bl (!decide (x = y))) M) := by rw [← Bool.beq_eq_decide_eq]; rfl
@[simp] theorem eqG_bl {x y : Bool} : eqG (.bl x) (.bl y) M = some (.ok (.bl (x == y)) M) := rfl
@[simp] theorem neG_bl {x y : Bool} : neG (.bl x) (.bl y) M = some (.ok (.bl (!(x == y))) M) := rfl
theorem mulG_r (h : -(2 ^ 64) < b ∧ b < 2 ^ 64) : mulG (.int a) (.int b) M = some (.ok (.int (a * b)) M) := by unfold mulG; exact if_pos (.inr (.inl h))
theorem mulG_l (h : -(2 ^ 64) < a ∧ a < 2 ^ 64) : mulG (.int a) (.int b) M = some (.ok (.int (a * b)) M) := by unfold mulG; exact if_pos (.inl h)
theorem mulIG_r (h : -(2 ^ 64) < b ∧ b < 2 ^ 64) : mulIG (.int a) (.int b) M = some (.ok (.int (a * b)) M) := by unfold mulIG; exact if_pos (.inr h)
theorem mulIG_l (h : -(2 ^ 64) < a ∧ a < 2 ^ 64) : mulIG (.int a) (.int b) M = some (.ok (.int (a * b)) M) := by unfold mulIG; exact if_pos (.inl h)
theorem log2_9000 {n : Nat} (h : n < 2 ^ 64) : n.log2 < 9000 := by
  by_cases h0 : n = 0
  · subst h0; decide
  · exact Nat.lt_trans ((Nat.log2_lt h0).mpr h) (by decide)
theorem divG_ok (h0 : 0 < b) (h : b < 2 ^ 64) : divG (.int a) (.int b) M = some (.ok (.int (a / b)) M) := by
  unfold divG
  exact if_pos ⟨h0, log2_9000 (by omega)⟩
theorem modG_ok (h0 : 0 < b) : modG (.int a) (.int b) M = some (.ok (.int (a % b)) M) := by
  unfold modG
  exact if_pos h0
theorem powG_ok (h : 0 ≤ b) (h1 : b ≤ 1000) (h2 : a.natAbs < 2 ^ 64) : powG (.int a) (.int b) M = some (.ok (.int (a ^ b.toNat)) M) := by
  unfold powG
  exact if_pos ⟨h, by omega, h2⟩
theorem powG_10 (h : 0 ≤ b) (h1 : b ≤ 1000) : powG (.int 10) (.int b) M = some (.ok (.int (10 ^ b.toNat)) M) := powG_ok h h1 (by decide)
theorem powG_2 (h : 0 ≤ b) (h1 : b ≤ 1000) : powG (.int 2) (.int b) M = some (.ok (.int (2 ^ b.toNat)) M) := powG_ok h h1 (by decide)
@[simp] theorem ixG_tup {ds : List D} {i : Int} : ixG (.tup ds) (.int i) M = pr M (atI ds i) := rfl
@[simp] theorem ixG_fl {ds : List D} {i : Int} : ixG (.fl ds) (.int i) M = pr M (atI ds i) := rfl
theorem ixG_ref {ds : List D} {i : Int} {p : Nat} (h : M[p]? = some (.lst ds)) : ixG (.ref p) (.int i) M = pr M (atI ds i) := by
  show (match M[p]? with | some (.lst ds) => pr M (atI ds i) | _ => none) = _
  rw [h]
theorem lenD_ref {ds : List D} {p : Nat} (h : M[p]? = some (.lst ds)) : lenD (.ref p) M = some (.ok (.int ds.length) M) := by
  show (match M[p]? with | some (.lst ds) => some (Rs.ok (D.int ds.length) M) | _ => none) = _
  rw [h]
@[simp] theorem lenD_tup {ds : List D} : lenD (.tup ds) M = some (.ok (.int ds.length) M) := rfl
@[simp] theorem lenD_fl {ds : List D} : lenD (.fl ds) M = some (.ok (.int ds.length) M) := rfl
theorem atI_nn {α : Type} {xs : List α} {i : Int} {v : α} (h0 : 0 ≤ i) (h : xs[i.toNat]? = some v) : atI xs i = some v := by
  have := atI_nat (xs := xs) (j := i.toNat) h
  rwa [Int.toNat_of_nonneg h0] at this
end
section
variable {a b c d : D} {l : List D} {M : Hd} {i : Int} {p q : Nat}
@[simp] theorem atI_c0 : atI (a :: l) 0 = some a := atI_nat (j := 0) rfl
@[simp] theorem atI_c1 : atI (a :: b :: l) 1 = some b := atI_nat (j := 1) rfl
@[simp] theorem atI_c2 : atI (a :: b :: c :: l) 2 = some c := atI_nat (j := 2) rfl
@[simp] theorem atI_c3 : atI (a :: b :: c :: d :: l) 3 = some d := atI_nat (j := 3) rfl
theorem ixN_c0 : ixN (l.length + 1) 0 = some 0 := by simp [ixN]
theorem ixN_2 : ixN 2 1 = some 1 := by simp [ixN]
theorem ixG_r : ixG (.ref p) (.int i) M = match M[p]? with | some (.lst ds) => pr M (atI ds i) | _ => none := rfl
theorem lenD_r : lenD (.ref p) M = match M[p]? with | some (.lst ds) => some (Rs.ok (D.int ds.length) M) | _ => none := rfl
theorem addG_r : addG (.ref p) (.ref q) M = match M[p]?, M[q]? with
    | some (.lst a), some (.lst b) => if a.length + b.length ≤ 16777216 then some (.ok (.ref M.length) (M ++ [.lst (a ++ b)])) else none
    | _, _ => none := rfl
theorem if_sm {α : Type} {i : Int} {a b : α} [Decidable (Sm i)] (h : -4611686018427387904 ≤ i ∧ i < 4611686018427387904) : (if Sm i then a else b) = a := if_pos h
theorem if_smP {i : Int} {a b : Prop} [Decidable (Sm i)] (h : -4611686018427387904 ≤ i ∧ i < 4611686018427387904) : (if Sm i then a else b) = a := if_pos h
theorem if_smP2 {i j : Int} {a b : Prop} [Decidable (Sm i ∧ Sm j)] (h : (-4611686018427387904 ≤ i ∧ i < 4611686018427387904) ∧ (-4611686018427387904 ≤ j ∧ j < 4611686018427387904)) : (if Sm i ∧ Sm j then a else b) = a := if_pos h
theorem set_app {R : Hd} {o o2 : O} : (R ++ [o]).set R.length o2 = R ++ [o2] := by simp
theorem get_mid {R Y : Hd} {o : O} : (R ++ o :: Y)[R.length]? = some o := by simp
theorem set_mid {R Y : Hd} {o o2 : O} : (R ++ o :: Y).set R.length o2 = R ++ o2 :: Y := by simp
theorem atI_rng {F : Nat → D} {c : Nat} {i : Int} (h0 : 0 ≤ i) (h1 : i < c) : atI ((List.range c).map F) i = some (F i.toNat) := by
  apply atI_nn h0
  rw [List.getElem?_map, List.getElem?_range (by omega)]
  rfl
@[simp] theorem intG_int : intG (.int i) M = some (.ok (.int i) M) := rfl
@[simp] theorem intG_bl {b : Bool} : intG (.bl b) M = some (.ok (.int (if b then 1 else 0)) M) := rfl
@[simp] theorem min2_int {j : Int} : min2 [.int i, .int j] M = some (.ok (.int (if j < i then j else i)) M) := rfl
@[simp] theorem max2_int {j : Int} : max2 [.int i, .int j] M = some (.ok (.int (if j > i then j else i)) M) := rfl
section
variable {T : Ty}
theorem isiG_non : isiG T .non M = some (.ok (.bl (Ty.non.sub T)) M) := rfl
theorem isiG_int : isiG T (.int i) M = some (.ok (.bl (Ty.int.sub T)) M) := rfl
theorem isiG_bl {b : Bool} : isiG T (.bl b) M = some (.ok (.bl (Ty.bl.sub T)) M) := rfl
theorem isiG_str {b : Str} : isiG T (.str b) M = some (.ok (.bl (Ty.str.sub T)) M) := rfl
theorem isiG_tup {b : List D} : isiG T (.tup b) M = some (.ok (.bl (Ty.tup.sub T)) M) := rfl
theorem isiG_fl {b : List D} : isiG T (.fl b) M = some (.ok (.bl (Ty.lst.sub T)) M) := rfl
end
end
section
variable {r : Ev} {M : Hd} {g g' : G2} {fa fb fc : EF}
theorem eChain_r : eChain g g' fa fb fc r M = bnd (fa r M) fun x M1 => bnd (fb r M1) fun y M2 => bnd (bnd (g x y M2) bOf) fun b M3 => if b = true then bnd (fc r M3) fun u M4 => g' y u M4 else some (.ok (.bl false) M3) := by
  unfold eChain
  congr 1; funext x M1; congr 1; funext y M2
  cases g x y M2 with
  | none => rfl
  | some o =>
    cases o with
    | er c M3 => rfl
    | ok d M3 =>
      cases d with
      | bl b => cases b <;> rfl
      | _ => rfl
theorem eAnd_r : eAnd fa fb r M = bnd (bnd (fa r M) bOf) fun b M3 => if b = true then fb r M3 else some (.ok (.bl false) M3) := by
  unfold eAnd
  cases fa r M with
  | none => rfl
  | some o =>
    cases o with
    | er c M3 => rfl
    | ok d M3 =>
      cases d with
      | bl b => cases b <;> rfl
      | _ => rfl
theorem eOr_r : eOr fa fb r M = bnd (bnd (fa r M) bOf) fun b M3 => if b = true then some (.ok (.bl true) M3) else fb r M3 := by
  unfold eOr
  cases fa r M with
  | none => rfl
  | some o =>
    cases o with
    | er c M3 => rfl
    | ok d M3 =>
      cases d with
      | bl b => cases b <;> rfl
      | _ => rfl
end
/-! ### loops -/
def lpQ (P : Ev → Hd → Prop) (Q : Fl × Hd → Prop) : Fl × Hd → Prop := fun o => match o with
  | (.nx r, M) => P r M
  | (.ct r, M) => P r M
  | (.bk r, M) => Q (.nx r, M)
  | o => Q o
section
variable {P : Ev → Hd → Prop} {Q : Fl × Hd → Prop} {r : Ev} {M : Hd} {d : D} {c : Str}
@[simp] theorem lpQ_nx : lpQ P Q (.nx r, M) ↔ P r M := Iff.rfl
@[simp] theorem lpQ_ct : lpQ P Q (.ct r, M) ↔ P r M := Iff.rfl
@[simp] theorem lpQ_bk : lpQ P Q (.bk r, M) ↔ Q (.nx r, M) := Iff.rfl
@[simp] theorem lpQ_rt : lpQ P Q (.rt d, M) ↔ Q (.rt d, M) := Iff.rfl
@[simp] theorem lpQ_xx : lpQ P Q (.xx c r, M) ↔ Q (.xx c r, M) := Iff.rfl
end
theorem wp_forL {gs : Gd} {t : Tg} {g : SF} {Q : Fl × Hd → Prop} {ds : List D} (P : Nat → Ev → Hd → Prop)
    (hs : ∀ i d r M, ds[i]? = some d → P i r M → Still gs M ∧ ∃ r1, t.put d r = some r1 ∧ Wp (g r1 M) (lpQ (P (i + 1)) Q))
    (hd : ∀ r M, P ds.length r M → Still gs M ∧ Q (.nx r, M)) {r : Ev} {M : Hd} (h0 : P 0 r M) : Wp (forL gs t g ds r M) Q := by
  have key : ∀ n i r M, ds.length - i = n → i ≤ ds.length → P i r M → Wp (forL gs t g (ds.drop i) r M) Q := by
    intro n
    induction n with
    | zero =>
      intro i r M hn hi p
      have : i = ds.length := by omega
      subst this
      obtain ⟨a, b⟩ := hd r M p
      rw [List.drop_length]
      unfold forL
      rw [if_pos a]
      exact wp_some.mpr b
    | succ n ih =>
      intro i r M hn hi p
      have hlt : i < ds.length := by omega
      have hdr : ds.drop i = ds[i] :: ds.drop (i + 1) := List.drop_eq_getElem_cons hlt
      obtain ⟨a, r1, e, o, e2, q⟩ := hs i ds[i] r M (List.getElem?_eq_getElem hlt) p
      rw [hdr]
      unfold forL
      rw [if_pos a, e]
      dsimp only
      rw [e2]
      obtain ⟨fl, M2⟩ := o
      cases fl with
      | nx r2 => exact ih (i + 1) r2 M2 (by omega) hlt q
      | ct r2 => exact ih (i + 1) r2 M2 (by omega) hlt q
      | bk r2 => exact wp_some.mpr q
      | rt d => exact wp_some.mpr q
      | xx c r2 => exact wp_some.mpr q
  exact key ds.length 0 r M (by omega) (Nat.zero_le _) h0
theorem wp_while {t : TF} {g : SF} {Q : Fl × Hd → Prop} {r : Ev} {M : Hd} {n : Nat} (P : Nat → Ev → Hd → Prop)
    (hs : ∀ n r M, P n r M → Wp (t r M) fun o => match o with
      | .ok b M1 => (b = false → Q (.nx r, M1)) ∧ (b = true → Wp (g r M1) (lpQ (fun r2 M2 => ∃ k, k < n ∧ P k r2 M2) Q))
      | .er _ _ => False) (h0 : P n r M) : Wp (sWhile t g r M) Q := by
  refine while_rule P (fun n r M p => ?_) n r M h0
  obtain ⟨o, e, q⟩ := hs n r M p
  cases o with
  | er c M1 => exact q.elim
  | ok b M1 =>
    cases b with
    | false => exact .inl ⟨M1, e, q.1 rfl⟩
    | true =>
      obtain ⟨o, e2, q2⟩ := q.2 rfl
      refine .inr ⟨M1, o, e, e2, ?_⟩
      obtain ⟨fl, M2⟩ := o
      cases fl <;> exact q2
/-- a comprehension, by a word of the turn, the list so far, the heap -/
theorem wp_lcL {gs : Gd} {n : Nat} {t : Tg} {c : TF} {f : EF} {r : Ev} {Q : Hd → Prop} {ds : List D} (P : Nat → Hd → Prop)
    (hs : ∀ i d M, ds[i]? = some d → P i M → Still gs M ∧ ∃ r1, t.put d r = some r1 ∧ Wp (c r1 M) fun o => match o with
      | .ok b M1 => (b = false → P (i + 1) M1) ∧ (b = true → Wp (f r1 M1) fun o => match o with
        | .ok x M2 => ∃ acc, M2[n]? = some (.lst acc) ∧ acc.length < 16777216 ∧ P (i + 1) (M2.set n (.lst (acc ++ [x])))
        | .er _ _ => False)
      | .er _ _ => False)
    (hd : ∀ M, P ds.length M → Still gs M ∧ Q M) {M : Hd} (h0 : P 0 M) : Wp (lcL gs n t c f r ds M) Q := by
  have key : ∀ k i M, ds.length - i = k → i ≤ ds.length → P i M → Wp (lcL gs n t c f r (ds.drop i) M) Q := by
    intro k
    induction k with
    | zero =>
      intro i M hn hi p
      have : i = ds.length := by omega
      subst this
      obtain ⟨a, b⟩ := hd M p
      rw [List.drop_length]
      unfold lcL
      rw [if_pos a]
      exact wp_some.mpr b
    | succ k ih =>
      intro i M hn hi p
      have hlt : i < ds.length := by omega
      have hdr : ds.drop i = ds[i] :: ds.drop (i + 1) := List.drop_eq_getElem_cons hlt
      obtain ⟨a, r1, e, o, e2, q⟩ := hs i ds[i] M (List.getElem?_eq_getElem hlt) p
      rw [hdr]
      unfold lcL
      rw [if_pos a, e]
      dsimp only
      rw [e2]
      cases o with
      | er c M1 => exact q.elim
      | ok b M1 =>
        cases b with
        | false => exact ih (i + 1) M1 (by omega) hlt (q.1 rfl)
        | true =>
          obtain ⟨o, e3, q3⟩ := q.2 rfl
          dsimp only
          rw [e3]
          cases o with
          | er c M2 => exact q3.elim
          | ok x M2 =>
            obtain ⟨acc, e4, hl, p'⟩ := q3
            dsimp only
            rw [e4]
            dsimp only
            rw [if_pos hl]
            exact ih (i + 1) _ (by omega) hlt p'
  exact key ds.length 0 M (by omega) (Nat.zero_le _) h0
theorem wp_eLc {it : IF} {t : Tg} {c : TF} {f : EF} {own : List Nat} {r : Ev} {M : Hd} {Q : Rs D → Prop} (h : Wp (it r M) fun o => match o with
    | .ok p M1 => Wp (lcL p.2 M1.length t c f (wip r own) p.1 (M1 ++ [.lst []])) fun M2 => Q (.ok (.ref M1.length) M2)
    | .er c M1 => Q (.er c M1)) : Wp (eLc it t c f own r M) Q := by
  unfold eLc
  rw [wp_bnd]
  refine h.imp ?_
  intro o
  cases o with
  | er c M1 => exact id
  | ok p M1 =>
    rintro ⟨M2, e, q⟩
    dsimp only
    rw [e]
    exact wp_some.mpr q
theorem ints_get {lo : Int} {n i : Nat} {d : D} (h : (intsD lo n)[i]? = some d) : i < n ∧ d = .int (lo + (i : Int)) := by
  unfold intsD at h
  rw [List.getElem?_map] at h
  by_cases hi : i < n
  · rw [List.getElem?_range hi] at h
    exact ⟨hi, (Option.some.inj h).symm⟩
  · rw [List.getElem?_eq_none (by simpa using hi)] at h
    cases h
@[simp] theorem ints_length (lo : Int) (n : Nat) : (intsD lo n).length = n := by unfold intsD; simp
end DI

end

section
set_option Elab.async false
set_option linter.all false
set_option maxRecDepth 100000
set_option maxHeartbeats 4000000
namespace G
open PySem PySem.Spec PyProof.Rows L2 DI
abbrev N__law_mixed : List Str := ["_law_number", "_law_k", "_law_step"]
abbrev P__law_mixed : List Str := ["_law_number", "_law_k"]
theorem sc__law_mixed : FnScope N__law_mixed P__law_mixed (defScope s__law_mixed) := ⟨rfl, rfl, rfl, by decide +kernel, rfl, by decide +kernel, by decide +kernel⟩
noncomputable def g__law_mixed : SF := (sSeq (sAsg 2 (eOp modG (eOp addG (eOp addG (eOp mulG (eVar 0) (eC (.int 48271))) (eOp mulG (eVar 1) (eC (.int 69621)))) (eC (.int 12345))) (eC (.int 2147483647))))
 (sRet (eOp modG (eOp addG (eOp mulG (eVar 2) (eOp addG (eOp divG (eVar 2) (eC (.int 65536))) (eC (.int 3)))) (eVar 1)) (eC (.int 2147483647)))))
noncomputable def m__law_mixed : List D → Hd → Option (Rs D) := mir N__law_mixed.length P__law_mixed.length g__law_mixed
theorem w__law_mixed {P : Program} {w : World} {K : PySem.W.Frag} {mg : Str → Option Value} {base : Heap} {f : Addr} {fd : FuncData} (F : FunD K "_law_mixed" "_law_mixed" (defArgs s__law_mixed) (defBody s__law_mixed) (defScope s__law_mixed) [] [] f fd) : FnOk P w K mg base (L2.CX P w) 1 f fd P__law_mixed (spD K mg 2 m__law_mixed) := by
  refine fn_mk (k := 0) (g := g__law_mixed) F sc__law_mixed fun cdv A outer s H E hr => ?_
  have nd := sc__law_mixed.nd
  have tk : Takes (cxOf (L2.CX P w) P w K mg base N__law_mixed "_law_mixed" (defScope s__law_mixed) f cdv A outer s H E) (fun cls d _ H => E cls d H) := takes_of rfl rfl rfl rfl
  have po : PassesOwn (model P w) (cxOf (L2.CX P w) P w K mg base N__law_mixed "_law_mixed" (defScope s__law_mixed) f cdv A outer s H E).A (cxOf (L2.CX P w) P w K mg base N__law_mixed "_law_mixed" (defScope s__law_mixed) f cdv A outer s H E).env (cxOf (L2.CX P w) P w K mg base N__law_mixed "_law_mixed" (defScope s__law_mixed) f cdv A outer s H E).xe := passes_of rfl
  exact (dss_cons (ds_set 2 nd (de_op op_mod od_mod (de_op op_addD od_add (de_op op_addD od_add (de_op op_mulD od_mul (de_var 0) de_int) (de_op op_mulD od_mul (de_var 1) de_int)) de_int) de_int))
 (dss_one (ds_ret (de_op op_mod od_mod (de_op op_addD od_add (de_op op_mulD od_mul (de_var 2) (de_op op_addD od_add (de_op op_fdivW od_div (de_var 2) de_int) de_int)) (de_var 1)) de_int))))
theorem d__law_mixed {P : Program} {w : World} {K : PySem.W.Frag} {mg : Str → Option Value} {base : Heap} {f : Addr} {fd : FuncData} (F : FunD K "_law_mixed" "_law_mixed" (defArgs s__law_mixed) (defBody s__law_mixed) (defScope s__law_mixed) [] [] f fd) (hmg : mg "_law_mixed" = some (.ref f)) : Dfn P w K mg base 1 "_law_mixed" 2 m__law_mixed :=
  dfn_of F hmg (FunD.bindsN F fun _ _ _ _ _ _ us hl => match us, hl with | [_, _], _ => rfl) (w__law_mixed F)

abbrev N__law_draw : List Str := ["_law_draws", "_law_at", "_law_first"]
abbrev P__law_draw : List Str := ["_law_draws"]
theorem sc__law_draw : FnScope N__law_draw P__law_draw (defScope s__law_draw) := ⟨rfl, rfl, rfl, by decide +kernel, rfl, by decide +kernel, by decide +kernel⟩
noncomputable def g__law_draw : SF := (sSeq (sAsg 1 (eOp ixG (eVar 0) (eC (.int 1))))
 (sSeq (sSetI (eOp addG (eVar 1) (eC (.int 1))) (eVar 0) (eC (.int 1)))
 (sSeq (sIf (tVal (eOp ltG (eVar 1) (eUn lenD (eOp ixG (eVar 0) (eC (.int 0)))))) (sRet (eOp ixG (eOp ixG (eVar 0) (eC (.int 0))) (eVar 1))) sNil)
 (sSeq (sAsg 2 (eOp addG (eC (.int 1)) (eVar 1)))
 (sSeq (sIf (tVal (eOp gtG (eUn lenD (eOp ixG (eVar 0) (eC (.int 0)))) (eC (.int 0)))) (sAsg 2 (eOp addG (eVar 2) (eOp mulG (eC (.int 1009)) (eOp ixG (eOp ixG (eVar 0) (eC (.int 0))) (eC (.int 0)))))) sNil)
 (sRet (eOp modG (eCall m__law_mixed (aCons (eCall m__law_mixed (aCons (eVar 2) (aCons (eVar 1) aNil))) (aCons (eC (.int 5)) aNil))) (eC (.int 1000000)))))))))
noncomputable def m__law_draw : List D → Hd → Option (Rs D) := mir N__law_draw.length P__law_draw.length g__law_draw
theorem w__law_draw {P : Program} {w : World} {K : PySem.W.Frag} {mg : Str → Option Value} {base : Heap} {f : Addr} {fd : FuncData} (F : FunD K "_law_draw" "_law_draw" (defArgs s__law_draw) (defBody s__law_draw) (defScope s__law_draw) [] [] f fd) (b_len : mg "len" = none) (F__law_mixed : Dfn P w K mg base 1 "_law_mixed" 2 m__law_mixed) : FnOk P w K mg base (L2.CX P w) 2 f fd P__law_draw (spD K mg 1 m__law_draw) := by
  refine fn_mk (k := 1) (g := g__law_draw) F sc__law_draw fun cdv A outer s H E hr => ?_
  have nd := sc__law_draw.nd
  have tk : Takes (cxOf (L2.CX P w) P w K mg base N__law_draw "_law_draw" (defScope s__law_draw) f cdv A outer s H E) (fun cls d _ H => E cls d H) := takes_of rfl rfl rfl rfl
  have po : PassesOwn (model P w) (cxOf (L2.CX P w) P w K mg base N__law_draw "_law_draw" (defScope s__law_draw) f cdv A outer s H E).A (cxOf (L2.CX P w) P w K mg base N__law_draw "_law_draw" (defScope s__law_draw) f cdv A outer s H E).env (cxOf (L2.CX P w) P w K mg base N__law_draw "_law_draw" (defScope s__law_draw) f cdv A outer s H E).xe := passes_of rfl
  exact (dss_cons (ds_set 1 nd (de_ix (de_var 0) de_int))
 (dss_cons (ds_setI (de_op op_addD od_add (de_var 1) de_int) (de_var 0) de_int)
 (dss_cons (ds_if (dt_cmp op_lt od_lt (de_var 1) (de_len (de_ix (de_var 0) de_int) b_len)) (dss_one (ds_ret (de_ix (de_ix (de_var 0) de_int) (de_var 1)))) dss_nil)
 (dss_cons (ds_set 2 nd (de_op op_addD od_add de_int (de_var 1)))
 (dss_cons (ds_if (dt_cmp op_gt od_gt (de_len (de_ix (de_var 0) de_int) b_len) de_int) (dss_one (ds_set 2 nd (de_op op_addD od_add (de_var 2) (de_op op_mulD od_mul de_int (de_ix (de_ix (de_var 0) de_int) de_int))))) dss_nil)
 (dss_one (ds_ret (de_op op_mod od_mod (de_call (F__law_mixed.mono (by decide)) tk hr (da_cons (de_call (F__law_mixed.mono (by decide)) tk hr (da_cons (de_var 2) (da_cons (de_var 1) da_nil))) (da_cons de_int da_nil))) de_int))))))))
theorem d__law_draw {P : Program} {w : World} {K : PySem.W.Frag} {mg : Str → Option Value} {base : Heap} {f : Addr} {fd : FuncData} (F : FunD K "_law_draw" "_law_draw" (defArgs s__law_draw) (defBody s__law_draw) (defScope s__law_draw) [] [] f fd) (hmg : mg "_law_draw" = some (.ref f)) (b_len : mg "len" = none) (F__law_mixed : Dfn P w K mg base 1 "_law_mixed" 2 m__law_mixed) : Dfn P w K mg base 2 "_law_draw" 1 m__law_draw :=
  dfn_of F hmg (FunD.bindsN F fun _ _ _ _ _ _ us hl => match us, hl with | [_], _ => rfl) (w__law_draw F b_len F__law_mixed)

abbrev N__law_table : List Str := ["_law_draws", "_law_values", "_law_kind", "_law_rows", "_law_i", "_law_row", "_law_j"]
abbrev P__law_table : List Str := ["_law_draws", "_law_values"]
theorem sc__law_table : FnScope N__law_table P__law_table (defScope s__law_table) := ⟨rfl, rfl, rfl, by decide +kernel, rfl, by decide +kernel, by decide +kernel⟩
noncomputable def g__law_table : SF := (sSeq (sAsg 2 (eOp modG (eCall m__law_draw (aCons (eVar 0) aNil)) (eC (.int 4))))
 (sSeq (sAsg 3 (eLst aNil))
 (sSeq (sFor (rng1 (eVar 1)) (.nm 4) (sSeq (sAsg 5 (eLst aNil))
 (sSeq (sFor (rng1 (eVar 1)) (.nm 6) (sIf (tVal (eOp eqG (eVar 2) (eC (.int 0)))) (sDrop (eLm appendG (eVar 5) (aCons (eOp modG (eOp addG (eVar 4) (eVar 6)) (eVar 1)) aNil))) (sIf (tVal (eOp eqG (eVar 2) (eC (.int 1)))) (sDrop (eLm appendG (eVar 5) (aCons (eOp modG (eOp mulG (eVar 4) (eVar 6)) (eVar 1)) aNil))) (sDrop (eLm appendG (eVar 5) (aCons (eOp modG (eCall m__law_draw (aCons (eVar 0) aNil)) (eVar 1)) aNil))))))
 (sDrop (eLm appendG (eVar 3) (aCons (eUn tupleG (eVar 5)) aNil))))))
 (sRet (eUn tupleG (eVar 3))))))
noncomputable def m__law_table : List D → Hd → Option (Rs D) := mir N__law_table.length P__law_table.length g__law_table
theorem w__law_table {P : Program} {w : World} {K : PySem.W.Frag} {mg : Str → Option Value} {base : Heap} {f : Addr} {fd : FuncData} (F : FunD K "_law_table" "_law_table" (defArgs s__law_table) (defBody s__law_table) (defScope s__law_table) [] [] f fd) (b_range : mg "range" = none) (b_tuple : mg "tuple" = none) (F__law_draw : Dfn P w K mg base 2 "_law_draw" 1 m__law_draw) : FnOk P w K mg base (L2.CX P w) 3 f fd P__law_table (spD K mg 2 m__law_table) := by
  refine fn_mk (k := 2) (g := g__law_table) F sc__law_table fun cdv A outer s H E hr => ?_
  have nd := sc__law_table.nd
  have tk : Takes (cxOf (L2.CX P w) P w K mg base N__law_table "_law_table" (defScope s__law_table) f cdv A outer s H E) (fun cls d _ H => E cls d H) := takes_of rfl rfl rfl rfl
  have po : PassesOwn (model P w) (cxOf (L2.CX P w) P w K mg base N__law_table "_law_table" (defScope s__law_table) f cdv A outer s H E).A (cxOf (L2.CX P w) P w K mg base N__law_table "_law_table" (defScope s__law_table) f cdv A outer s H E).env (cxOf (L2.CX P w) P w K mg base N__law_table "_law_table" (defScope s__law_table) f cdv A outer s H E).xe := passes_of rfl
  exact (dss_cons (ds_set 2 nd (de_op op_mod od_mod (de_call (F__law_draw.mono (by decide)) tk hr (da_cons (de_var 0) da_nil)) de_int))
 (dss_cons (ds_set 3 nd (de_lst da_nil))
 (dss_cons (ds_for po rfl (di_rng1 (de_var 1) b_range) (dg_nm 4 nd) (dss_cons (ds_set 5 nd (de_lst da_nil))
 (dss_cons (ds_for po rfl (di_rng1 (de_var 1) b_range) (dg_nm 6 nd) (dss_one (ds_if (dt_cmp (op_eqP hr.units) od_eq (de_var 2) de_int) (dss_one (ds_drop (de_append (de_var 5) (da_cons (de_op op_mod od_mod (de_op op_addD od_add (de_var 4) (de_var 6)) (de_var 1)) da_nil)))) (dss_one (ds_if (dt_cmp (op_eqP hr.units) od_eq (de_var 2) de_int) (dss_one (ds_drop (de_append (de_var 5) (da_cons (de_op op_mod od_mod (de_op op_mulD od_mul (de_var 4) (de_var 6)) (de_var 1)) da_nil)))) (dss_one (ds_drop (de_append (de_var 5) (da_cons (de_op op_mod od_mod (de_call (F__law_draw.mono (by decide)) tk hr (da_cons (de_var 0) da_nil)) (de_var 1)) da_nil)))))))))
 (dss_one (ds_drop (de_append (de_var 3) (da_cons (de_tuple (de_var 5) b_tuple) da_nil)))))))
 (dss_one (ds_ret (de_tuple (de_var 3) b_tuple))))))
theorem d__law_table {P : Program} {w : World} {K : PySem.W.Frag} {mg : Str → Option Value} {base : Heap} {f : Addr} {fd : FuncData} (F : FunD K "_law_table" "_law_table" (defArgs s__law_table) (defBody s__law_table) (defScope s__law_table) [] [] f fd) (hmg : mg "_law_table" = some (.ref f)) (b_range : mg "range" = none) (b_tuple : mg "tuple" = none) (F__law_draw : Dfn P w K mg base 2 "_law_draw" 1 m__law_draw) : Dfn P w K mg base 3 "_law_table" 2 m__law_table :=
  dfn_of F hmg (FunD.bindsN F fun _ _ _ _ _ _ us hl => match us, hl with | [_, _], _ => rfl) (w__law_table F b_range b_tuple F__law_draw)

abbrev N__law_tree : List Str := ["_law_draws", "_law_values", "_law_deep", "_law_left", "_law_first"]
abbrev P__law_tree : List Str := ["_law_draws", "_law_values", "_law_deep", "_law_left"]
theorem sc__law_tree : FnScope N__law_tree P__law_tree (defScope s__law_tree) := ⟨rfl, rfl, rfl, by decide +kernel, rfl, by decide +kernel, by decide +kernel⟩
noncomputable def g__law_tree (m__law_tree : List D → Hd → Option (Rs D)) : SF := (sSeq (sIf (tOr (tVal (eOp leG (eVar 2) (eC (.int 1)))) (tOr (tVal (eOp ltG (eOp ixG (eVar 3) (eC (.int 0))) (eC (.int 2)))) (tVal (eOp eqG (eOp modG (eCall m__law_draw (aCons (eVar 0) aNil)) (eC (.int 5))) (eC (.int 0)))))) (sRet (eTup (aCons (eC (.str "leaf")) (aCons (eOp modG (eCall m__law_draw (aCons (eVar 0) aNil)) (eVar 1)) aNil)))) sNil)
 (sSeq (sSetI (eOp subG (eOp ixG (eVar 3) (eC (.int 0))) (eC (.int 2))) (eVar 3) (eC (.int 0)))
 (sSeq (sAsg 4 (eCall m__law_tree (aCons (eVar 0) (aCons (eVar 1) (aCons (eOp subG (eVar 2) (eC (.int 1))) (aCons (eVar 3) aNil))))))
 (sRet (eTup (aCons (eC (.str "node")) (aCons (eCall m__law_table (aCons (eVar 0) (aCons (eVar 1) aNil))) (aCons (eVar 4) (aCons (eCall m__law_tree (aCons (eVar 0) (aCons (eVar 1) (aCons (eOp subG (eVar 2) (eC (.int 1))) (aCons (eVar 3) aNil))))) aNil)))))))))
theorem w__law_tree {P : Program} {w : World} {K : PySem.W.Frag} {mg : Str → Option Value} {base : Heap} {f : Addr} {fd : FuncData} (F : FunD K "_law_tree" "_law_tree" (defArgs s__law_tree) (defBody s__law_tree) (defScope s__law_tree) [] [] f fd) {L : Nat} (hL : 3 ≤ L) {m__law_tree : List D → Hd → Option (Rs D)} (F__law_draw : Dfn P w K mg base 2 "_law_draw" 1 m__law_draw) (F__law_table : Dfn P w K mg base 3 "_law_table" 2 m__law_table) (F__law_tree : Dfn P w K mg base L "_law_tree" 4 m__law_tree) : FnOk P w K mg base (L2.CX P w) (L + 1) f fd P__law_tree (spD K mg 4 (mir N__law_tree.length P__law_tree.length (g__law_tree m__law_tree))) := by
  refine fn_mk (k := L) (g := g__law_tree m__law_tree) F sc__law_tree fun cdv A outer s H E hr => ?_
  have nd := sc__law_tree.nd
  have tk : Takes (cxOf (L2.CX P w) P w K mg base N__law_tree "_law_tree" (defScope s__law_tree) f cdv A outer s H E) (fun cls d _ H => E cls d H) := takes_of rfl rfl rfl rfl
  have po : PassesOwn (model P w) (cxOf (L2.CX P w) P w K mg base N__law_tree "_law_tree" (defScope s__law_tree) f cdv A outer s H E).A (cxOf (L2.CX P w) P w K mg base N__law_tree "_law_tree" (defScope s__law_tree) f cdv A outer s H E).env (cxOf (L2.CX P w) P w K mg base N__law_tree "_law_tree" (defScope s__law_tree) f cdv A outer s H E).xe := passes_of rfl
  exact (dss_cons (ds_if (dt_w (dw_or (dt_cmp op_le od_le (de_var 2) de_int) (dw_or (dt_cmp op_lt od_lt (de_ix (de_var 3) de_int) de_int) (dw_or1 (dt_cmp (op_eqP hr.units) od_eq (de_op op_mod od_mod (de_call (F__law_draw.mono (by omega)) tk hr (da_cons (de_var 0) da_nil)) de_int) de_int))))) (dss_one (ds_ret (de_tup (da_cons de_str (da_cons (de_op op_mod od_mod (de_call (F__law_draw.mono (by omega)) tk hr (da_cons (de_var 0) da_nil)) (de_var 1)) da_nil))))) dss_nil)
 (dss_cons (ds_setI (de_op op_sub od_sub (de_ix (de_var 3) de_int) de_int) (de_var 3) de_int)
 (dss_cons (ds_set 4 nd (de_call (F__law_tree.mono (by omega)) tk hr (da_cons (de_var 0) (da_cons (de_var 1) (da_cons (de_op op_sub od_sub (de_var 2) de_int) (da_cons (de_var 3) da_nil))))))
 (dss_one (ds_ret (de_tup (da_cons de_str (da_cons (de_call (F__law_table.mono (by omega)) tk hr (da_cons (de_var 0) (da_cons (de_var 1) da_nil))) (da_cons (de_var 4) (da_cons (de_call (F__law_tree.mono (by omega)) tk hr (da_cons (de_var 0) (da_cons (de_var 1) (da_cons (de_op op_sub od_sub (de_var 2) de_int) (da_cons (de_var 3) da_nil))))) da_nil))))))))))
noncomputable def r__law_tree : Nat → (List D → Hd → Option (Rs D))
  | 0 => (fun _ _ => none)
  | n + 1 => (fun p => mir N__law_tree.length P__law_tree.length (g__law_tree p)) (r__law_tree n)
noncomputable def m__law_tree : List D → Hd → Option (Rs D) := (r__law_tree 60)
theorem dr__law_tree {P : Program} {w : World} {K : PySem.W.Frag} {mg : Str → Option Value} {base : Heap} {f0 : Addr} {fd0 : FuncData} (FD0 : FunD K "_law_tree" "_law_tree" (defArgs s__law_tree) (defBody s__law_tree) (defScope s__law_tree) [] [] f0 fd0) (hm0 : mg "_law_tree" = some (.ref f0)) (F__law_draw : Dfn P w K mg base 2 "_law_draw" 1 m__law_draw) (F__law_table : Dfn P w K mg base 3 "_law_table" 2 m__law_table) : ∀ n, Dfn P w K mg base (3 + n) "_law_tree" 4 (r__law_tree n) := by
  intro n
  induction n with
  | zero => exact Dfn.none (ps := P__law_tree) hm0 FD0.kp (FunD.bindsN FD0 fun _ _ _ _ _ _ us hl => match us, hl with | [_, _, _, _], _ => rfl)
  | succ n ih => exact dfn_of FD0 hm0 (FunD.bindsN FD0 fun _ _ _ _ _ _ us hl => match us, hl with | [_, _, _, _], _ => rfl) (w__law_tree FD0 (Nat.le_add_right 3 n) F__law_draw F__law_table ih)

abbrev N__law_bad_number : List Str := ["_law_draws", "_law_values"]
abbrev P__law_bad_number : List Str := ["_law_draws", "_law_values"]
theorem sc__law_bad_number : FnScope N__law_bad_number P__law_bad_number (defScope s__law_bad_number) := ⟨rfl, rfl, rfl, by decide +kernel, rfl, by decide +kernel, by decide +kernel⟩
noncomputable def g__law_bad_number : SF := (sRet (eOp ixG (eLst (aCons (eUn negG (eC (.int 1))) (aCons (eVar 1) (aCons (eC (.bl true)) (aCons (eC (.str "0")) (aCons (eC .non) (aCons (eOp shlG (eC (.int 1)) (eC (.int 40))) aNil))))))) (eOp modG (eCall m__law_draw (aCons (eVar 0) aNil)) (eC (.int 6)))))
noncomputable def m__law_bad_number : List D → Hd → Option (Rs D) := mir N__law_bad_number.length P__law_bad_number.length g__law_bad_number
theorem w__law_bad_number {P : Program} {w : World} {K : PySem.W.Frag} {mg : Str → Option Value} {base : Heap} {f : Addr} {fd : FuncData} (F : FunD K "_law_bad_number" "_law_bad_number" (defArgs s__law_bad_number) (defBody s__law_bad_number) (defScope s__law_bad_number) [] [] f fd) (F__law_draw : Dfn P w K mg base 2 "_law_draw" 1 m__law_draw) : FnOk P w K mg base (L2.CX P w) 3 f fd P__law_bad_number (spD K mg 2 m__law_bad_number) := by
  refine fn_mk (k := 2) (g := g__law_bad_number) F sc__law_bad_number fun cdv A outer s H E hr => ?_
  have nd := sc__law_bad_number.nd
  have tk : Takes (cxOf (L2.CX P w) P w K mg base N__law_bad_number "_law_bad_number" (defScope s__law_bad_number) f cdv A outer s H E) (fun cls d _ H => E cls d H) := takes_of rfl rfl rfl rfl
  have po : PassesOwn (model P w) (cxOf (L2.CX P w) P w K mg base N__law_bad_number "_law_bad_number" (defScope s__law_bad_number) f cdv A outer s H E).A (cxOf (L2.CX P w) P w K mg base N__law_bad_number "_law_bad_number" (defScope s__law_bad_number) f cdv A outer s H E).env (cxOf (L2.CX P w) P w K mg base N__law_bad_number "_law_bad_number" (defScope s__law_bad_number) f cdv A outer s H E).xe := passes_of rfl
  exact (dss_one (ds_ret (de_ix (de_lst (da_cons (de_un un_neg ou_neg de_int) (da_cons (de_var 1) (da_cons de_bl (da_cons de_str (da_cons de_non (da_cons (de_op op_shl od_shl de_int de_int) da_nil))))))) (de_op op_mod od_mod (de_call (F__law_draw.mono (by decide)) tk hr (da_cons (de_var 0) da_nil)) de_int))))
theorem d__law_bad_number {P : Program} {w : World} {K : PySem.W.Frag} {mg : Str → Option Value} {base : Heap} {f : Addr} {fd : FuncData} (F : FunD K "_law_bad_number" "_law_bad_number" (defArgs s__law_bad_number) (defBody s__law_bad_number) (defScope s__law_bad_number) [] [] f fd) (hmg : mg "_law_bad_number" = some (.ref f)) (F__law_draw : Dfn P w K mg base 2 "_law_draw" 1 m__law_draw) : Dfn P w K mg base 3 "_law_bad_number" 2 m__law_bad_number :=
  dfn_of F hmg (FunD.bindsN F fun _ _ _ _ _ _ us hl => match us, hl with | [_, _], _ => rfl) (w__law_bad_number F F__law_draw)

abbrev N__law_bad_table : List Str := ["_law_draws", "_law_table_here", "_law_values", "_law_rows", "_law_pick", "_law_at", "_law_row", "_law_x"]
abbrev P__law_bad_table : List Str := ["_law_draws", "_law_table_here", "_law_values"]
theorem sc__law_bad_table : FnScope N__law_bad_table P__law_bad_table (defScope s__law_bad_table) := ⟨rfl, rfl, rfl, by decide +kernel, rfl, by decide +kernel, by decide +kernel⟩
noncomputable def g__law_bad_table : SF := (sSeq (sAsg 3 (eLc (seqI (eVar 1)) (.nm 6) tYes (eUn listG (eVar 6)) [6]))
 (sSeq (sAsg 4 (eOp modG (eCall m__law_draw (aCons (eVar 0) aNil)) (eC (.int 7))))
 (sSeq (sAsg 5 (eOp modG (eCall m__law_draw (aCons (eVar 0) aNil)) (eVar 2)))
 (sSeq (sIf (tVal (eOp eqG (eVar 4) (eC (.int 0)))) (sRet (eOp addG (eVar 1) (eTup (aCons (eOp ixG (eVar 1) (eC (.int 0))) aNil)))) sNil)
 (sSeq (sIf (tVal (eOp eqG (eVar 4) (eC (.int 1)))) (sRet (eSl (eVar 1) oNone (oSome (eOp subG (eVar 2) (eC (.int 1)))))) sNil)
 (sSeq (sIf (tVal (eOp eqG (eVar 4) (eC (.int 2)))) (sSetI (eOp addG (eOp ixG (eVar 3) (eVar 5)) (eLst (aCons (eC (.int 0)) aNil))) (eVar 3) (eVar 5)) (sIf (tVal (eOp eqG (eVar 4) (eC (.int 3)))) (sSetI (eCall m__law_bad_number (aCons (eVar 0) (aCons (eVar 2) aNil))) (eOp ixG (eVar 3) (eVar 5)) (eOp modG (eCall m__law_draw (aCons (eVar 0) aNil)) (eVar 2))) (sIf (tVal (eOp eqG (eVar 4) (eC (.int 4)))) (sRet (eUn tupleG (eVar 3))) (sIf (tVal (eOp eqG (eVar 4) (eC (.int 5)))) (sRet (eUn tupleG (eLc (seqI (eSl (eVar 3) oNone (oSome (eOp subG (eVar 2) (eC (.int 1)))))) (.nm 6) tYes (eUn tupleG (eLc (seqI (eSl (eVar 6) oNone (oSome (eOp subG (eVar 2) (eC (.int 1)))))) (.nm 7) tYes (eCB min2 (aCons (eVar 7) (aCons (eCB max2 (aCons (eC (.int 0)) (aCons (eOp subG (eVar 2) (eC (.int 2))) aNil))) aNil))) [7])) [6]))) (sRet (eLc (seqI (eVar 3)) (.nm 6) tYes (eUn tupleG (eVar 6)) [6]))))))
 (sRet (eUn tupleG (eLc (seqI (eVar 3)) (.nm 6) tYes (eUn tupleG (eVar 6)) [6])))))))))
noncomputable def m__law_bad_table : List D → Hd → Option (Rs D) := mir N__law_bad_table.length P__law_bad_table.length g__law_bad_table
theorem w__law_bad_table {P : Program} {w : World} {K : PySem.W.Frag} {mg : Str → Option Value} {base : Heap} {f : Addr} {fd : FuncData} (F : FunD K "_law_bad_table" "_law_bad_table" (defArgs s__law_bad_table) (defBody s__law_bad_table) (defScope s__law_bad_table) [] [] f fd) (b_list : mg "list" = none) (b_tuple : mg "tuple" = none) (b_max : mg "max" = none) (b_min : mg "min" = none) (F__law_draw : Dfn P w K mg base 2 "_law_draw" 1 m__law_draw) (F__law_bad_number : Dfn P w K mg base 3 "_law_bad_number" 2 m__law_bad_number) : FnOk P w K mg base (L2.CX P w) 4 f fd P__law_bad_table (spD K mg 3 m__law_bad_table) := by
  refine fn_mk (k := 3) (g := g__law_bad_table) F sc__law_bad_table fun cdv A outer s H E hr => ?_
  have nd := sc__law_bad_table.nd
  have tk : Takes (cxOf (L2.CX P w) P w K mg base N__law_bad_table "_law_bad_table" (defScope s__law_bad_table) f cdv A outer s H E) (fun cls d _ H => E cls d H) := takes_of rfl rfl rfl rfl
  have po : PassesOwn (model P w) (cxOf (L2.CX P w) P w K mg base N__law_bad_table "_law_bad_table" (defScope s__law_bad_table) f cdv A outer s H E).A (cxOf (L2.CX P w) P w K mg base N__law_bad_table "_law_bad_table" (defScope s__law_bad_table) f cdv A outer s H E).env (cxOf (L2.CX P w) P w K mg base N__law_bad_table "_law_bad_table" (defScope s__law_bad_table) f cdv A outer s H E).xe := passes_of rfl
  exact (dss_cons (ds_setLc (own := [("_law_row", 6)]) (i := 3) rfl nd rfl rfl (sw_true rfl rfl rfl (by decide +kernel)) (di_seq (de_var 1)) (blkOk_by (own := [("_law_row", 6)]) (N := N__law_bad_table) (sc := defScope s__law_bad_table) (by decide +kernel)) (by decide) (fun _ _ _ _ _ => (dg_nm 6 nd)) (fun _ _ _ _ _ => dts_nil) (fun _ _ _ _ _ => (de_list (de_var 6) b_list)))
 (dss_cons (ds_set 4 nd (de_op op_mod od_mod (de_call (F__law_draw.mono (by decide)) tk hr (da_cons (de_var 0) da_nil)) de_int))
 (dss_cons (ds_set 5 nd (de_op op_mod od_mod (de_call (F__law_draw.mono (by decide)) tk hr (da_cons (de_var 0) da_nil)) (de_var 2)))
 (dss_cons (ds_if (dt_cmp (op_eqP hr.units) od_eq (de_var 4) de_int) (dss_one (ds_ret (de_op op_addD od_add (de_var 1) (de_tup (da_cons (de_ix (de_var 1) de_int) da_nil))))) dss_nil)
 (dss_cons (ds_if (dt_cmp (op_eqP hr.units) od_eq (de_var 4) de_int) (dss_one (ds_ret (de_slice (de_var 1) do_none (do_some (de_op op_sub od_sub (de_var 2) de_int))))) dss_nil)
 (dss_cons (ds_if (dt_cmp (op_eqP hr.units) od_eq (de_var 4) de_int) (dss_one (ds_setI (de_op op_addD od_add (de_ix (de_var 3) (de_var 5)) (de_lst (da_cons de_int da_nil))) (de_var 3) (de_var 5))) (dss_one (ds_if (dt_cmp (op_eqP hr.units) od_eq (de_var 4) de_int) (dss_one (ds_setI (de_call (F__law_bad_number.mono (by decide)) tk hr (da_cons (de_var 0) (da_cons (de_var 2) da_nil))) (de_ix (de_var 3) (de_var 5)) (de_op op_mod od_mod (de_call (F__law_draw.mono (by decide)) tk hr (da_cons (de_var 0) da_nil)) (de_var 2)))) (dss_one (ds_if (dt_cmp (op_eqP hr.units) od_eq (de_var 4) de_int) (dss_one (ds_ret (de_tuple (de_var 3) b_tuple))) (dss_one (ds_if (dt_cmp (op_eqP hr.units) od_eq (de_var 4) de_int) (dss_one (ds_ret (de_tuple (de_lc (own := [("_law_row", 6)]) rfl nd (di_seq (de_slice (de_var 3) do_none (do_some (de_op op_sub od_sub (de_var 2) de_int)))) (blkOk_by (own := [("_law_row", 6)]) (N := N__law_bad_table) (sc := defScope s__law_bad_table) (by decide +kernel)) (by decide) (fun _ _ _ _ _ => (dg_nm 6 nd)) (fun _ _ _ _ _ => dts_nil) (fun _ _ _ _ _ => (de_tuple (de_lc (own := [("_law_x", 7)]) rfl nd (di_seq (de_slice (de_var 6) do_none (do_some (de_op op_sub od_sub (de_var 2) de_int)))) (blkOk_in (own := [("_law_x", 7)]) (N := N__law_bad_table) (by decide +kernel)) (by decide) (fun _ _ _ _ _ => (dg_nm 7 nd)) (fun _ _ _ _ _ => dts_nil) (fun _ _ _ _ _ => (de_min2 rfl (da_cons (de_var 7) (da_cons (de_max2 rfl (da_cons de_int (da_cons (de_op op_sub od_sub (de_var 2) de_int) da_nil)) b_max) da_nil)) b_min))) b_tuple))) b_tuple))) (dss_one (ds_ret (de_lc (own := [("_law_row", 6)]) rfl nd (di_seq (de_var 3)) (blkOk_by (own := [("_law_row", 6)]) (N := N__law_bad_table) (sc := defScope s__law_bad_table) (by decide +kernel)) (by decide) (fun _ _ _ _ _ => (dg_nm 6 nd)) (fun _ _ _ _ _ => dts_nil) (fun _ _ _ _ _ => (de_tuple (de_var 6) b_tuple))))))))))))
 (dss_one (ds_ret (de_tuple (de_lc (own := [("_law_row", 6)]) rfl nd (di_seq (de_var 3)) (blkOk_by (own := [("_law_row", 6)]) (N := N__law_bad_table) (sc := defScope s__law_bad_table) (by decide +kernel)) (by decide) (fun _ _ _ _ _ => (dg_nm 6 nd)) (fun _ _ _ _ _ => dts_nil) (fun _ _ _ _ _ => (de_tuple (de_var 6) b_tuple))) b_tuple)))))))))
theorem d__law_bad_table {P : Program} {w : World} {K : PySem.W.Frag} {mg : Str → Option Value} {base : Heap} {f : Addr} {fd : FuncData} (F : FunD K "_law_bad_table" "_law_bad_table" (defArgs s__law_bad_table) (defBody s__law_bad_table) (defScope s__law_bad_table) [] [] f fd) (hmg : mg "_law_bad_table" = some (.ref f)) (b_list : mg "list" = none) (b_tuple : mg "tuple" = none) (b_max : mg "max" = none) (b_min : mg "min" = none) (F__law_draw : Dfn P w K mg base 2 "_law_draw" 1 m__law_draw) (F__law_bad_number : Dfn P w K mg base 3 "_law_bad_number" 2 m__law_bad_number) : Dfn P w K mg base 4 "_law_bad_table" 3 m__law_bad_table :=
  dfn_of F hmg (FunD.bindsN F fun _ _ _ _ _ _ us hl => match us, hl with | [_, _, _], _ => rfl) (w__law_bad_table F b_list b_tuple b_max b_min F__law_draw F__law_bad_number)

abbrev N__law_spoilt : List Str := ["_law_draws", "_law_tree_here", "_law_values", "_law_pick", "_law_part", "_law_spoilt_here"]
abbrev P__law_spoilt : List Str := ["_law_draws", "_law_tree_here", "_law_values"]
theorem sc__law_spoilt : FnScope N__law_spoilt P__law_spoilt (defScope s__law_spoilt) := ⟨rfl, rfl, rfl, by decide +kernel, rfl, by decide +kernel, by decide +kernel⟩
noncomputable def g__law_spoilt (m__law_spoilt : List D → Hd → Option (Rs D)) : SF := (sSeq (sIf (tVal (eOp eqG (eOp ixG (eVar 1) (eC (.int 0))) (eC (.str "leaf")))) (sRet (eOp ixG (eLst (aCons (eTup (aCons (eC (.str "leaf")) (aCons (eCall m__law_bad_number (aCons (eVar 0) (aCons (eVar 2) aNil))) aNil))) (aCons (eTup (aCons (eC (.str "leaf")) aNil)) (aCons (eTup (aCons (eC (.str "leaf")) (aCons (eC (.int 0)) (aCons (eC (.int 0)) aNil)))) (aCons (eLst (aCons (eC (.str "leaf")) (aCons (eC (.int 0)) aNil))) (aCons (eTup (aCons (eC (.str "leave")) (aCons (eC (.int 0)) aNil))) (aCons (eC .non) (aCons (eTup aNil) (aCons (eC (.int 5)) aNil))))))))) (eOp modG (eCall m__law_draw (aCons (eVar 0) aNil)) (eC (.int 8))))) sNil)
 (sSeq (sAsg 3 (eOp modG (eCall m__law_draw (aCons (eVar 0) aNil)) (eC (.int 8))))
 (sSeq (sIf (tVal (eOp ltG (eVar 3) (eC (.int 3)))) (sSeq (sAsg 4 (eOp addG (eC (.int 2)) (eOp modG (eCall m__law_draw (aCons (eVar 0) aNil)) (eC (.int 2)))))
 (sSeq (sAsg 5 (eCall m__law_spoilt (aCons (eVar 0) (aCons (eOp ixG (eVar 1) (eVar 4)) (aCons (eVar 2) aNil)))))
 (sSeq (sIf (tVal (eOp eqG (eVar 4) (eC (.int 2)))) (sRet (eTup (aCons (eOp ixG (eVar 1) (eC (.int 0))) (aCons (eOp ixG (eVar 1) (eC (.int 1))) (aCons (eVar 5) (aCons (eOp ixG (eVar 1) (eC (.int 3))) aNil)))))) sNil)
 (sRet (eTup (aCons (eOp ixG (eVar 1) (eC (.int 0))) (aCons (eOp ixG (eVar 1) (eC (.int 1))) (aCons (eOp ixG (eVar 1) (eC (.int 2))) (aCons (eVar 5) aNil))))))))) sNil)
 (sSeq (sIf (tVal (eOp eqG (eVar 3) (eC (.int 3)))) (sRet (eSl (eVar 1) oNone (oSome (eC (.int 3))))) sNil)
 (sSeq (sIf (tVal (eOp eqG (eVar 3) (eC (.int 4)))) (sRet (eOp addG (eVar 1) (eTup (aCons (eOp ixG (eVar 1) (eC (.int 2))) aNil)))) sNil)
 (sSeq (sIf (tVal (eOp eqG (eVar 3) (eC (.int 5)))) (sRet (eOp addG (eTup (aCons (eC (.str "Node")) aNil)) (eSl (eVar 1) (oSome (eC (.int 1))) oNone))) sNil)
 (sSeq (sIf (tVal (eOp eqG (eVar 3) (eC (.int 6)))) (sRet (eUn listG (eVar 1))) sNil)
 (sRet (eOp addG (eTup (aCons (eOp ixG (eVar 1) (eC (.int 0))) (aCons (eCall m__law_bad_table (aCons (eVar 0) (aCons (eOp ixG (eVar 1) (eC (.int 1))) (aCons (eVar 2) aNil)))) aNil))) (eSl (eVar 1) (oSome (eC (.int 2))) oNone))))))))))
theorem w__law_spoilt {P : Program} {w : World} {K : PySem.W.Frag} {mg : Str → Option Value} {base : Heap} {f : Addr} {fd : FuncData} (F : FunD K "_law_spoilt" "_law_spoilt" (defArgs s__law_spoilt) (defBody s__law_spoilt) (defScope s__law_spoilt) [] [] f fd) {L : Nat} (hL : 4 ≤ L) {m__law_spoilt : List D → Hd → Option (Rs D)} (b_list : mg "list" = none) (F__law_bad_number : Dfn P w K mg base 3 "_law_bad_number" 2 m__law_bad_number) (F__law_draw : Dfn P w K mg base 2 "_law_draw" 1 m__law_draw) (F__law_bad_table : Dfn P w K mg base 4 "_law_bad_table" 3 m__law_bad_table) (F__law_spoilt : Dfn P w K mg base L "_law_spoilt" 3 m__law_spoilt) : FnOk P w K mg base (L2.CX P w) (L + 1) f fd P__law_spoilt (spD K mg 3 (mir N__law_spoilt.length P__law_spoilt.length (g__law_spoilt m__law_spoilt))) := by
  refine fn_mk (k := L) (g := g__law_spoilt m__law_spoilt) F sc__law_spoilt fun cdv A outer s H E hr => ?_
  have nd := sc__law_spoilt.nd
  have tk : Takes (cxOf (L2.CX P w) P w K mg base N__law_spoilt "_law_spoilt" (defScope s__law_spoilt) f cdv A outer s H E) (fun cls d _ H => E cls d H) := takes_of rfl rfl rfl rfl
  have po : PassesOwn (model P w) (cxOf (L2.CX P w) P w K mg base N__law_spoilt "_law_spoilt" (defScope s__law_spoilt) f cdv A outer s H E).A (cxOf (L2.CX P w) P w K mg base N__law_spoilt "_law_spoilt" (defScope s__law_spoilt) f cdv A outer s H E).env (cxOf (L2.CX P w) P w K mg base N__law_spoilt "_law_spoilt" (defScope s__law_spoilt) f cdv A outer s H E).xe := passes_of rfl
  exact (dss_cons (ds_if (dt_cmp (op_eqP hr.units) od_eq (de_ix (de_var 1) de_int) de_str) (dss_one (ds_ret (de_ix (de_lst (da_cons (de_tup (da_cons de_str (da_cons (de_call (F__law_bad_number.mono (by omega)) tk hr (da_cons (de_var 0) (da_cons (de_var 2) da_nil))) da_nil))) (da_cons (de_tup (da_cons de_str da_nil)) (da_cons (de_tup (da_cons de_str (da_cons de_int (da_cons de_int da_nil)))) (da_cons (de_lst (da_cons de_str (da_cons de_int da_nil))) (da_cons (de_tup (da_cons de_str (da_cons de_int da_nil))) (da_cons de_non (da_cons (de_tup da_nil) (da_cons de_int da_nil))))))))) (de_op op_mod od_mod (de_call (F__law_draw.mono (by omega)) tk hr (da_cons (de_var 0) da_nil)) de_int)))) dss_nil)
 (dss_cons (ds_set 3 nd (de_op op_mod od_mod (de_call (F__law_draw.mono (by omega)) tk hr (da_cons (de_var 0) da_nil)) de_int))
 (dss_cons (ds_if (dt_cmp op_lt od_lt (de_var 3) de_int) (dss_cons (ds_set 4 nd (de_op op_addD od_add de_int (de_op op_mod od_mod (de_call (F__law_draw.mono (by omega)) tk hr (da_cons (de_var 0) da_nil)) de_int)))
 (dss_cons (ds_set 5 nd (de_call (F__law_spoilt.mono (by omega)) tk hr (da_cons (de_var 0) (da_cons (de_ix (de_var 1) (de_var 4)) (da_cons (de_var 2) da_nil)))))
 (dss_cons (ds_if (dt_cmp (op_eqP hr.units) od_eq (de_var 4) de_int) (dss_one (ds_ret (de_tup (da_cons (de_ix (de_var 1) de_int) (da_cons (de_ix (de_var 1) de_int) (da_cons (de_var 5) (da_cons (de_ix (de_var 1) de_int) da_nil))))))) dss_nil)
 (dss_one (ds_ret (de_tup (da_cons (de_ix (de_var 1) de_int) (da_cons (de_ix (de_var 1) de_int) (da_cons (de_ix (de_var 1) de_int) (da_cons (de_var 5) da_nil)))))))))) dss_nil)
 (dss_cons (ds_if (dt_cmp (op_eqP hr.units) od_eq (de_var 3) de_int) (dss_one (ds_ret (de_slice (de_var 1) do_none (do_some de_int)))) dss_nil)
 (dss_cons (ds_if (dt_cmp (op_eqP hr.units) od_eq (de_var 3) de_int) (dss_one (ds_ret (de_op op_addD od_add (de_var 1) (de_tup (da_cons (de_ix (de_var 1) de_int) da_nil))))) dss_nil)
 (dss_cons (ds_if (dt_cmp (op_eqP hr.units) od_eq (de_var 3) de_int) (dss_one (ds_ret (de_op op_addD od_add (de_tup (da_cons de_str da_nil)) (de_slice (de_var 1) (do_some de_int) do_none)))) dss_nil)
 (dss_cons (ds_if (dt_cmp (op_eqP hr.units) od_eq (de_var 3) de_int) (dss_one (ds_ret (de_list (de_var 1) b_list))) dss_nil)
 (dss_one (ds_ret (de_op op_addD od_add (de_tup (da_cons (de_ix (de_var 1) de_int) (da_cons (de_call (F__law_bad_table.mono (by omega)) tk hr (da_cons (de_var 0) (da_cons (de_ix (de_var 1) de_int) (da_cons (de_var 2) da_nil)))) da_nil))) (de_slice (de_var 1) (do_some de_int) do_none)))))))))))
noncomputable def r__law_spoilt : Nat → (List D → Hd → Option (Rs D))
  | 0 => (fun _ _ => none)
  | n + 1 => (fun p => mir N__law_spoilt.length P__law_spoilt.length (g__law_spoilt p)) (r__law_spoilt n)
noncomputable def m__law_spoilt : List D → Hd → Option (Rs D) := (r__law_spoilt 60)
theorem dr__law_spoilt {P : Program} {w : World} {K : PySem.W.Frag} {mg : Str → Option Value} {base : Heap} {f0 : Addr} {fd0 : FuncData} (FD0 : FunD K "_law_spoilt" "_law_spoilt" (defArgs s__law_spoilt) (defBody s__law_spoilt) (defScope s__law_spoilt) [] [] f0 fd0) (hm0 : mg "_law_spoilt" = some (.ref f0)) (b_list : mg "list" = none) (F__law_bad_number : Dfn P w K mg base 3 "_law_bad_number" 2 m__law_bad_number) (F__law_draw : Dfn P w K mg base 2 "_law_draw" 1 m__law_draw) (F__law_bad_table : Dfn P w K mg base 4 "_law_bad_table" 3 m__law_bad_table) : ∀ n, Dfn P w K mg base (4 + n) "_law_spoilt" 3 (r__law_spoilt n) := by
  intro n
  induction n with
  | zero => exact Dfn.none (ps := P__law_spoilt) hm0 FD0.kp (FunD.bindsN FD0 fun _ _ _ _ _ _ us hl => match us, hl with | [_, _, _], _ => rfl)
  | succ n ih => exact dfn_of FD0 hm0 (FunD.bindsN FD0 fun _ _ _ _ _ _ us hl => match us, hl with | [_, _, _], _ => rfl) (w__law_spoilt FD0 (Nat.le_add_right 4 n) b_list F__law_bad_number F__law_draw F__law_bad_table ih)

abbrev N__law_comb : List Str := ["_law_levels", "_law_tree_here", "_law_k"]
abbrev P__law_comb : List Str := ["_law_levels"]
theorem sc__law_comb : FnScope N__law_comb P__law_comb (defScope s__law_comb) := ⟨rfl, rfl, rfl, by decide +kernel, rfl, by decide +kernel, by decide +kernel⟩
noncomputable def g__law_comb : SF := (sSeq (sAsg 1 (eTup (aCons (eC (.str "leaf")) (aCons (eC (.int 0)) aNil))))
 (sSeq (sFor (rng1 (eOp subG (eVar 0) (eC (.int 1)))) (.nm 2) (sIf (tVal (eOp eqG (eOp modG (eVar 2) (eC (.int 2))) (eC (.int 0)))) (sAsg 1 (eTup (aCons (eC (.str "node")) (aCons (eTup (aCons (eTup (aCons (eC (.int 0)) (aCons (eC (.int 1)) aNil))) (aCons (eTup (aCons (eC (.int 1)) (aCons (eC (.int 0)) aNil))) aNil))) (aCons (eVar 1) (aCons (eTup (aCons (eC (.str "leaf")) (aCons (eC (.int 1)) aNil))) aNil)))))) (sAsg 1 (eTup (aCons (eC (.str "node")) (aCons (eTup (aCons (eTup (aCons (eC (.int 0)) (aCons (eC (.int 1)) aNil))) (aCons (eTup (aCons (eC (.int 1)) (aCons (eC (.int 0)) aNil))) aNil))) (aCons (eTup (aCons (eC (.str "leaf")) (aCons (eC (.int 1)) aNil))) (aCons (eVar 1) aNil))))))))
 (sRet (eVar 1))))
noncomputable def m__law_comb : List D → Hd → Option (Rs D) := mir N__law_comb.length P__law_comb.length g__law_comb
theorem w__law_comb {P : Program} {w : World} {K : PySem.W.Frag} {mg : Str → Option Value} {base : Heap} {f : Addr} {fd : FuncData} (F : FunD K "_law_comb" "_law_comb" (defArgs s__law_comb) (defBody s__law_comb) (defScope s__law_comb) [] [] f fd) (b_range : mg "range" = none) : FnOk P w K mg base (L2.CX P w) 1 f fd P__law_comb (spD K mg 1 m__law_comb) := by
  refine fn_mk (k := 0) (g := g__law_comb) F sc__law_comb fun cdv A outer s H E hr => ?_
  have nd := sc__law_comb.nd
  have tk : Takes (cxOf (L2.CX P w) P w K mg base N__law_comb "_law_comb" (defScope s__law_comb) f cdv A outer s H E) (fun cls d _ H => E cls d H) := takes_of rfl rfl rfl rfl
  have po : PassesOwn (model P w) (cxOf (L2.CX P w) P w K mg base N__law_comb "_law_comb" (defScope s__law_comb) f cdv A outer s H E).A (cxOf (L2.CX P w) P w K mg base N__law_comb "_law_comb" (defScope s__law_comb) f cdv A outer s H E).env (cxOf (L2.CX P w) P w K mg base N__law_comb "_law_comb" (defScope s__law_comb) f cdv A outer s H E).xe := passes_of rfl
  exact (dss_cons (ds_set 1 nd (de_tup (da_cons de_str (da_cons de_int da_nil))))
 (dss_cons (ds_for po rfl (di_rng1 (de_op op_sub od_sub (de_var 0) de_int) b_range) (dg_nm 2 nd) (dss_one (ds_if (dt_cmp (op_eqP hr.units) od_eq (de_op op_mod od_mod (de_var 2) de_int) de_int) (dss_one (ds_set 1 nd (de_tup (da_cons de_str (da_cons (de_tup (da_cons (de_tup (da_cons de_int (da_cons de_int da_nil))) (da_cons (de_tup (da_cons de_int (da_cons de_int da_nil))) da_nil))) (da_cons (de_var 1) (da_cons (de_tup (da_cons de_str (da_cons de_int da_nil))) da_nil))))))) (dss_one (ds_set 1 nd (de_tup (da_cons de_str (da_cons (de_tup (da_cons (de_tup (da_cons de_int (da_cons de_int da_nil))) (da_cons (de_tup (da_cons de_int (da_cons de_int da_nil))) da_nil))) (da_cons (de_tup (da_cons de_str (da_cons de_int da_nil))) (da_cons (de_var 1) da_nil))))))))))
 (dss_one (ds_ret (de_var 1)))))
theorem d__law_comb {P : Program} {w : World} {K : PySem.W.Frag} {mg : Str → Option Value} {base : Heap} {f : Addr} {fd : FuncData} (F : FunD K "_law_comb" "_law_comb" (defArgs s__law_comb) (defBody s__law_comb) (defScope s__law_comb) [] [] f fd) (hmg : mg "_law_comb" = some (.ref f)) (b_range : mg "range" = none) : Dfn P w K mg base 1 "_law_comb" 1 m__law_comb :=
  dfn_of F hmg (FunD.bindsN F fun _ _ _ _ _ _ us hl => match us, hl with | [_], _ => rfl) (w__law_comb F b_range)

abbrev N__law_broad : List Str := ["_law_leaves", "_law_row", "_law_turn", "_law_pairs", "_law_k"]
abbrev P__law_broad : List Str := ["_law_leaves"]
theorem sc__law_broad : FnScope N__law_broad P__law_broad (defScope s__law_broad) := ⟨rfl, rfl, rfl, by decide +kernel, rfl, by decide +kernel, by decide +kernel⟩
noncomputable def g__law_broad : SF := (sSeq (sAsg 1 (eLc (rng1 (eVar 0)) (.nm 4) tYes (eTup (aCons (eC (.str "leaf")) (aCons (eOp modG (eVar 4) (eC (.int 2))) aNil))) [4]))
 (sSeq (sFor (rng1 (eC (.int 8))) (.nm 2) (sSeq (sAsg 3 (eLst aNil))
 (sSeq (sFor (rng1 (eOp divG (eOp addG (eUn lenD (eVar 1)) (eC (.int 1))) (eC (.int 2)))) (.nm 4) (sIf (tVal (eOp ltG (eOp addG (eOp mulG (eC (.int 2)) (eVar 4)) (eC (.int 1))) (eUn lenD (eVar 1)))) (sDrop (eLm appendG (eVar 3) (aCons (eTup (aCons (eC (.str "node")) (aCons (eTup (aCons (eTup (aCons (eC (.int 1)) (aCons (eC (.int 0)) aNil))) (aCons (eTup (aCons (eC (.int 0)) (aCons (eC (.int 1)) aNil))) aNil))) (aCons (eOp ixG (eVar 1) (eOp mulG (eC (.int 2)) (eVar 4))) (aCons (eOp ixG (eVar 1) (eOp addG (eOp mulG (eC (.int 2)) (eVar 4)) (eC (.int 1)))) aNil))))) aNil))) (sDrop (eLm appendG (eVar 3) (aCons (eOp ixG (eVar 1) (eOp mulG (eC (.int 2)) (eVar 4))) aNil)))))
 (sAsg 1 (eVar 3)))))
 (sRet (eOp ixG (eVar 1) (eC (.int 0))))))
noncomputable def m__law_broad : List D → Hd → Option (Rs D) := mir N__law_broad.length P__law_broad.length g__law_broad
theorem w__law_broad {P : Program} {w : World} {K : PySem.W.Frag} {mg : Str → Option Value} {base : Heap} {f : Addr} {fd : FuncData} (F : FunD K "_law_broad" "_law_broad" (defArgs s__law_broad) (defBody s__law_broad) (defScope s__law_broad) [] [] f fd) (b_range : mg "range" = none) (b_len : mg "len" = none) : FnOk P w K mg base (L2.CX P w) 1 f fd P__law_broad (spD K mg 1 m__law_broad) := by
  refine fn_mk (k := 0) (g := g__law_broad) F sc__law_broad fun cdv A outer s H E hr => ?_
  have nd := sc__law_broad.nd
  have tk : Takes (cxOf (L2.CX P w) P w K mg base N__law_broad "_law_broad" (defScope s__law_broad) f cdv A outer s H E) (fun cls d _ H => E cls d H) := takes_of rfl rfl rfl rfl
  have po : PassesOwn (model P w) (cxOf (L2.CX P w) P w K mg base N__law_broad "_law_broad" (defScope s__law_broad) f cdv A outer s H E).A (cxOf (L2.CX P w) P w K mg base N__law_broad "_law_broad" (defScope s__law_broad) f cdv A outer s H E).env (cxOf (L2.CX P w) P w K mg base N__law_broad "_law_broad" (defScope s__law_broad) f cdv A outer s H E).xe := passes_of rfl
  exact (dss_cons (ds_setLc (own := [("_law_k", 4)]) (i := 1) rfl nd rfl rfl (sw_true rfl rfl rfl (by decide +kernel)) (di_rng1 (de_var 0) b_range) (blkOk_by (own := [("_law_k", 4)]) (N := N__law_broad) (sc := defScope s__law_broad) (by decide +kernel)) (by decide) (fun _ _ _ _ _ => (dg_nm 4 nd)) (fun _ _ _ _ _ => dts_nil) (fun _ _ _ _ _ => (de_tup (da_cons de_str (da_cons (de_op op_mod od_mod (de_var 4) de_int) da_nil)))))
 (dss_cons (ds_for po rfl (di_rng1 de_int b_range) (dg_nm 2 nd) (dss_cons (ds_set 3 nd (de_lst da_nil))
 (dss_cons (ds_for po rfl (di_rng1 (de_op op_fdivW od_div (de_op op_addD od_add (de_len (de_var 1) b_len) de_int) de_int) b_range) (dg_nm 4 nd) (dss_one (ds_if (dt_cmp op_lt od_lt (de_op op_addD od_add (de_op op_mulD od_mul de_int (de_var 4)) de_int) (de_len (de_var 1) b_len)) (dss_one (ds_drop (de_append (de_var 3) (da_cons (de_tup (da_cons de_str (da_cons (de_tup (da_cons (de_tup (da_cons de_int (da_cons de_int da_nil))) (da_cons (de_tup (da_cons de_int (da_cons de_int da_nil))) da_nil))) (da_cons (de_ix (de_var 1) (de_op op_mulD od_mul de_int (de_var 4))) (da_cons (de_ix (de_var 1) (de_op op_addD od_add (de_op op_mulD od_mul de_int (de_var 4)) de_int)) da_nil))))) da_nil)))) (dss_one (ds_drop (de_append (de_var 3) (da_cons (de_ix (de_var 1) (de_op op_mulD od_mul de_int (de_var 4))) da_nil)))))))
 (dss_one (ds_set 1 nd (de_var 3))))))
 (dss_one (ds_ret (de_ix (de_var 1) de_int)))))
theorem d__law_broad {P : Program} {w : World} {K : PySem.W.Frag} {mg : Str → Option Value} {base : Heap} {f : Addr} {fd : FuncData} (F : FunD K "_law_broad" "_law_broad" (defArgs s__law_broad) (defBody s__law_broad) (defScope s__law_broad) [] [] f fd) (hmg : mg "_law_broad" = some (.ref f)) (b_range : mg "range" = none) (b_len : mg "len" = none) : Dfn P w K mg base 1 "_law_broad" 1 m__law_broad :=
  dfn_of F hmg (FunD.bindsN F fun _ _ _ _ _ _ us hl => match us, hl with | [_], _ => rfl) (w__law_broad F b_range b_len)

abbrev N__law_given : List Str := ["_law_draws", "_law_values", "_law_tree_here", "_law_pick", "_law_levels", "_law_leaves"]
abbrev P__law_given : List Str := ["_law_draws"]
theorem sc__law_given : FnScope N__law_given P__law_given (defScope s__law_given) := ⟨rfl, rfl, rfl, by decide +kernel, rfl, by decide +kernel, by decide +kernel⟩
noncomputable def g__law_given : SF := (sSeq (sAsg 1 (eOp addG (eC (.int 1)) (eOp modG (eCall m__law_draw (aCons (eVar 0) aNil)) (eOp ixG (eLst (aCons (eC (.int 7)) (aCons (eC (.int 7)) (aCons (eC (.int 40)) aNil)))) (eOp modG (eCall m__law_draw (aCons (eVar 0) aNil)) (eC (.int 3)))))))
 (sSeq (sAsg 2 (eCall m__law_tree (aCons (eVar 0) (aCons (eVar 1) (aCons (eC (.int 5)) (aCons (eLst (aCons (eOp subG (eC (.int 14)) (eOp mulG (eC (.int 10)) (eUn intG (eOp gtG (eVar 1) (eC (.int 7)))))) aNil)) aNil))))))
 (sSeq (sAsg 3 (eOp modG (eCall m__law_draw (aCons (eVar 0) aNil)) (eC (.int 10))))
 (sSeq (sIf (tVal (eOp ltG (eVar 3) (eC (.int 4)))) (sRet (eLst (aCons (eCall m__law_spoilt (aCons (eVar 0) (aCons (eVar 2) (aCons (eVar 1) aNil)))) (aCons (eVar 1) (aCons (eC (.bl false)) aNil))))) sNil)
 (sSeq (sIf (tVal (eOp eqG (eVar 3) (eC (.int 4)))) (sRet (eLst (aCons (eVar 2) (aCons (eOp ixG (eLst (aCons (eC (.int 0)) (aCons (eC (.int 41)) (aCons (eC (.bl true)) (aCons (eC .non) aNil))))) (eOp modG (eCall m__law_draw (aCons (eVar 0) aNil)) (eC (.int 4)))) (aCons (eC (.bl false)) aNil))))) sNil)
 (sSeq (sIf (tVal (eOp eqG (eVar 3) (eC (.int 5)))) (sSeq (sAsg 4 (eOp addG (eC (.int 38)) (eOp modG (eCall m__law_draw (aCons (eVar 0) aNil)) (eC (.int 5)))))
 (sRet (eLst (aCons (eCall m__law_comb (aCons (eVar 4) aNil)) (aCons (eC (.int 2)) (aCons (eOp leG (eVar 4) (eC (.int 40))) aNil)))))) sNil)
 (sSeq (sIf (tVal (eOp eqG (eVar 3) (eC (.int 6)))) (sSeq (sAsg 5 (eOp addG (eC (.int 99)) (eOp modG (eCall m__law_draw (aCons (eVar 0) aNil)) (eC (.int 3)))))
 (sRet (eLst (aCons (eCall m__law_broad (aCons (eVar 5) aNil)) (aCons (eC (.int 2)) (aCons (eOp leG (eVar 5) (eC (.int 100))) aNil)))))) sNil)
 (sSeq (sIf (tAnd (tVal (eOp eqG (eVar 3) (eC (.int 7)))) (tVal (eOp eqG (eOp ixG (eVar 2) (eC (.int 0))) (eC (.str "node"))))) (sRet (eLst (aCons (eVar 2) (aCons (eOp subG (eCB min2 (aCons (eC (.int 40)) (aCons (eOp addG (eVar 1) (eC (.int 1))) aNil))) (eUn intG (eOp eqG (eVar 1) (eC (.int 40))))) (aCons (eC (.bl false)) aNil))))) sNil)
 (sRet (eLst (aCons (eVar 2) (aCons (eVar 1) (aCons (eC (.bl true)) aNil)))))))))))))
noncomputable def m__law_given : List D → Hd → Option (Rs D) := mir N__law_given.length P__law_given.length g__law_given
theorem w__law_given {P : Program} {w : World} {K : PySem.W.Frag} {mg : Str → Option Value} {base : Heap} {f : Addr} {fd : FuncData} (F : FunD K "_law_given" "_law_given" (defArgs s__law_given) (defBody s__law_given) (defScope s__law_given) [] [] f fd) (b_int : mg "int" = none) (b_min : mg "min" = none) (F__law_draw : Dfn P w K mg base 2 "_law_draw" 1 m__law_draw) (F__law_tree : Dfn P w K mg base 63 "_law_tree" 4 m__law_tree) (F__law_spoilt : Dfn P w K mg base 64 "_law_spoilt" 3 m__law_spoilt) (F__law_comb : Dfn P w K mg base 1 "_law_comb" 1 m__law_comb) (F__law_broad : Dfn P w K mg base 1 "_law_broad" 1 m__law_broad) : FnOk P w K mg base (L2.CX P w) 65 f fd P__law_given (spD K mg 1 m__law_given) := by
  refine fn_mk (k := 64) (g := g__law_given) F sc__law_given fun cdv A outer s H E hr => ?_
  have nd := sc__law_given.nd
  have tk : Takes (cxOf (L2.CX P w) P w K mg base N__law_given "_law_given" (defScope s__law_given) f cdv A outer s H E) (fun cls d _ H => E cls d H) := takes_of rfl rfl rfl rfl
  have po : PassesOwn (model P w) (cxOf (L2.CX P w) P w K mg base N__law_given "_law_given" (defScope s__law_given) f cdv A outer s H E).A (cxOf (L2.CX P w) P w K mg base N__law_given "_law_given" (defScope s__law_given) f cdv A outer s H E).env (cxOf (L2.CX P w) P w K mg base N__law_given "_law_given" (defScope s__law_given) f cdv A outer s H E).xe := passes_of rfl
  exact (dss_cons (ds_set 1 nd (de_op op_addD od_add de_int (de_op op_mod od_mod (de_call (F__law_draw.mono (by decide)) tk hr (da_cons (de_var 0) da_nil)) (de_ix (de_lst (da_cons de_int (da_cons de_int (da_cons de_int da_nil)))) (de_op op_mod od_mod (de_call (F__law_draw.mono (by decide)) tk hr (da_cons (de_var 0) da_nil)) de_int)))))
 (dss_cons (ds_set 2 nd (de_call (F__law_tree.mono (by decide)) tk hr (da_cons (de_var 0) (da_cons (de_var 1) (da_cons de_int (da_cons (de_lst (da_cons (de_op op_sub od_sub de_int (de_op op_mulD od_mul de_int (de_int1 (de_cmp op_gt od_gt (de_var 1) de_int) b_int))) da_nil)) da_nil))))))
 (dss_cons (ds_set 3 nd (de_op op_mod od_mod (de_call (F__law_draw.mono (by decide)) tk hr (da_cons (de_var 0) da_nil)) de_int))
 (dss_cons (ds_if (dt_cmp op_lt od_lt (de_var 3) de_int) (dss_one (ds_ret (de_lst (da_cons (de_call (F__law_spoilt.mono (by decide)) tk hr (da_cons (de_var 0) (da_cons (de_var 2) (da_cons (de_var 1) da_nil)))) (da_cons (de_var 1) (da_cons de_bl da_nil)))))) dss_nil)
 (dss_cons (ds_if (dt_cmp (op_eqP hr.units) od_eq (de_var 3) de_int) (dss_one (ds_ret (de_lst (da_cons (de_var 2) (da_cons (de_ix (de_lst (da_cons de_int (da_cons de_int (da_cons de_bl (da_cons de_non da_nil))))) (de_op op_mod od_mod (de_call (F__law_draw.mono (by decide)) tk hr (da_cons (de_var 0) da_nil)) de_int)) (da_cons de_bl da_nil)))))) dss_nil)
 (dss_cons (ds_if (dt_cmp (op_eqP hr.units) od_eq (de_var 3) de_int) (dss_cons (ds_set 4 nd (de_op op_addD od_add de_int (de_op op_mod od_mod (de_call (F__law_draw.mono (by decide)) tk hr (da_cons (de_var 0) da_nil)) de_int)))
 (dss_one (ds_ret (de_lst (da_cons (de_call (F__law_comb.mono (by decide)) tk hr (da_cons (de_var 4) da_nil)) (da_cons de_int (da_cons (de_cmp op_le od_le (de_var 4) de_int) da_nil))))))) dss_nil)
 (dss_cons (ds_if (dt_cmp (op_eqP hr.units) od_eq (de_var 3) de_int) (dss_cons (ds_set 5 nd (de_op op_addD od_add de_int (de_op op_mod od_mod (de_call (F__law_draw.mono (by decide)) tk hr (da_cons (de_var 0) da_nil)) de_int)))
 (dss_one (ds_ret (de_lst (da_cons (de_call (F__law_broad.mono (by decide)) tk hr (da_cons (de_var 5) da_nil)) (da_cons de_int (da_cons (de_cmp op_le od_le (de_var 5) de_int) da_nil))))))) dss_nil)
 (dss_cons (ds_if (dt_w (dw_and (dt_cmp (op_eqP hr.units) od_eq (de_var 3) de_int) (dw_and1 (dt_cmp (op_eqP hr.units) od_eq (de_ix (de_var 2) de_int) de_str)))) (dss_one (ds_ret (de_lst (da_cons (de_var 2) (da_cons (de_op op_sub od_sub (de_min2 rfl (da_cons de_int (da_cons (de_op op_addD od_add (de_var 1) de_int) da_nil)) b_min) (de_int1 (de_cmp (op_eqP hr.units) od_eq (de_var 1) de_int) b_int)) (da_cons de_bl da_nil)))))) dss_nil)
 (dss_one (ds_ret (de_lst (da_cons (de_var 2) (da_cons (de_var 1) (da_cons de_bl da_nil))))))))))))))
theorem d__law_given {P : Program} {w : World} {K : PySem.W.Frag} {mg : Str → Option Value} {base : Heap} {f : Addr} {fd : FuncData} (F : FunD K "_law_given" "_law_given" (defArgs s__law_given) (defBody s__law_given) (defScope s__law_given) [] [] f fd) (hmg : mg "_law_given" = some (.ref f)) (b_int : mg "int" = none) (b_min : mg "min" = none) (F__law_draw : Dfn P w K mg base 2 "_law_draw" 1 m__law_draw) (F__law_tree : Dfn P w K mg base 63 "_law_tree" 4 m__law_tree) (F__law_spoilt : Dfn P w K mg base 64 "_law_spoilt" 3 m__law_spoilt) (F__law_comb : Dfn P w K mg base 1 "_law_comb" 1 m__law_comb) (F__law_broad : Dfn P w K mg base 1 "_law_broad" 1 m__law_broad) : Dfn P w K mg base 65 "_law_given" 1 m__law_given :=
  dfn_of F hmg (FunD.bindsN F fun _ _ _ _ _ _ us hl => match us, hl with | [_], _ => rfl) (w__law_given F b_int b_min F__law_draw F__law_tree F__law_spoilt F__law_comb F__law_broad)

abbrev N__law_numbers : List Str := ["_law_script", "_law_numbers_here", "_law_cell", "_law_rest", "_law_k"]
abbrev P__law_numbers : List Str := ["_law_script"]
theorem sc__law_numbers : FnScope N__law_numbers P__law_numbers (defScope s__law_numbers) := ⟨rfl, rfl, rfl, by decide +kernel, rfl, by decide +kernel, by decide +kernel⟩
noncomputable def g__law_numbers : SF := (sSeq (sAsg 1 (eLst aNil))
 (sSeq (sFor (seqI (eVar 0)) (.nm 2) (sIf (tVal (eOp geG (eVar 2) (eOp powG (eC (.int 10)) (eC (.int 18))))) (sSeq (sAsg 3 (eVar 2))
 (sFor (rng1 (eC (.int 60))) (.nm 4) (sIf (tVal (eOp gtG (eVar 3) (eC (.int 0)))) (sSeq (sDrop (eLm appendG (eVar 1) (aCons (eOp modG (eVar 3) (eC (.int 1000000))) aNil)))
 (sAsg 3 (eOp divG (eVar 3) (eC (.int 1000000))))) sNil))) (sSeq (sDrop (eLm appendG (eVar 1) (aCons (eOp modG (eVar 2) (eC (.int 1000000))) aNil)))
 (sFor (rng1 (eC (.int 5))) (.nm 4) (sDrop (eLm appendG (eVar 1) (aCons (eOp modG (eCall m__law_mixed (aCons (eCall m__law_mixed (aCons (eOp modG (eVar 2) (eC (.int 2147483647))) (aCons (eVar 4) aNil))) (aCons (eOp addG (eVar 4) (eC (.int 7))) aNil))) (eC (.int 1000000))) aNil)))))))
 (sRet (eVar 1))))
noncomputable def m__law_numbers : List D → Hd → Option (Rs D) := mir N__law_numbers.length P__law_numbers.length g__law_numbers
theorem w__law_numbers {P : Program} {w : World} {K : PySem.W.Frag} {mg : Str → Option Value} {base : Heap} {f : Addr} {fd : FuncData} (F : FunD K "_law_numbers" "_law_numbers" (defArgs s__law_numbers) (defBody s__law_numbers) (defScope s__law_numbers) [] [] f fd) (b_range : mg "range" = none) (F__law_mixed : Dfn P w K mg base 1 "_law_mixed" 2 m__law_mixed) : FnOk P w K mg base (L2.CX P w) 2 f fd P__law_numbers (spD K mg 1 m__law_numbers) := by
  refine fn_mk (k := 1) (g := g__law_numbers) F sc__law_numbers fun cdv A outer s H E hr => ?_
  have nd := sc__law_numbers.nd
  have tk : Takes (cxOf (L2.CX P w) P w K mg base N__law_numbers "_law_numbers" (defScope s__law_numbers) f cdv A outer s H E) (fun cls d _ H => E cls d H) := takes_of rfl rfl rfl rfl
  have po : PassesOwn (model P w) (cxOf (L2.CX P w) P w K mg base N__law_numbers "_law_numbers" (defScope s__law_numbers) f cdv A outer s H E).A (cxOf (L2.CX P w) P w K mg base N__law_numbers "_law_numbers" (defScope s__law_numbers) f cdv A outer s H E).env (cxOf (L2.CX P w) P w K mg base N__law_numbers "_law_numbers" (defScope s__law_numbers) f cdv A outer s H E).xe := passes_of rfl
  exact (dss_cons (ds_set 1 nd (de_lst da_nil))
 (dss_cons (ds_for po rfl (di_seq (de_var 0)) (dg_nm 2 nd) (dss_one (ds_if (dt_cmp op_ge od_ge (de_var 2) (de_op op_pow od_pow de_int de_int)) (dss_cons (ds_set 3 nd (de_var 2))
 (dss_one (ds_for po rfl (di_rng1 de_int b_range) (dg_nm 4 nd) (dss_one (ds_if (dt_cmp op_gt od_gt (de_var 3) de_int) (dss_cons (ds_drop (de_append (de_var 1) (da_cons (de_op op_mod od_mod (de_var 3) de_int) da_nil)))
 (dss_one (ds_set 3 nd (de_op op_fdivW od_div (de_var 3) de_int)))) dss_nil))))) (dss_cons (ds_drop (de_append (de_var 1) (da_cons (de_op op_mod od_mod (de_var 2) de_int) da_nil)))
 (dss_one (ds_for po rfl (di_rng1 de_int b_range) (dg_nm 4 nd) (dss_one (ds_drop (de_append (de_var 1) (da_cons (de_op op_mod od_mod (de_call (F__law_mixed.mono (by decide)) tk hr (da_cons (de_call (F__law_mixed.mono (by decide)) tk hr (da_cons (de_op op_mod od_mod (de_var 2) de_int) (da_cons (de_var 4) da_nil))) (da_cons (de_op op_addD od_add (de_var 4) de_int) da_nil))) de_int) da_nil))))))))))
 (dss_one (ds_ret (de_var 1)))))
theorem d__law_numbers {P : Program} {w : World} {K : PySem.W.Frag} {mg : Str → Option Value} {base : Heap} {f : Addr} {fd : FuncData} (F : FunD K "_law_numbers" "_law_numbers" (defArgs s__law_numbers) (defBody s__law_numbers) (defScope s__law_numbers) [] [] f fd) (hmg : mg "_law_numbers" = some (.ref f)) (b_range : mg "range" = none) (F__law_mixed : Dfn P w K mg base 1 "_law_mixed" 2 m__law_mixed) : Dfn P w K mg base 2 "_law_numbers" 1 m__law_numbers :=
  dfn_of F hmg (FunD.bindsN F fun _ _ _ _ _ _ us hl => match us, hl with | [_], _ => rfl) (w__law_numbers F b_range F__law_mixed)

abbrev N_is_integer : List Str := ["value"]
abbrev P_is_integer : List Str := ["value"]
theorem sc_is_integer : FnScope N_is_integer P_is_integer (defScope s_is_integer) := ⟨rfl, rfl, rfl, by decide +kernel, rfl, by decide +kernel, by decide +kernel⟩
noncomputable def g_is_integer : SF := (sRet (eAnd (eUn (isiG .int) (eVar 0)) (eNot (eUn (isiG .bl) (eVar 0)))))
noncomputable def m_is_integer : List D → Hd → Option (Rs D) := mir N_is_integer.length P_is_integer.length g_is_integer
theorem w_is_integer {P : Program} {w : World} {K : PySem.W.Frag} {mg : Str → Option Value} {base : Heap} {f : Addr} {fd : FuncData} (F : FunD K "is_integer" "is_integer" (defArgs s_is_integer) (defBody s_is_integer) (defScope s_is_integer) [] [] f fd) (b_isinstance : mg "isinstance" = none) (b_int : mg "int" = none) (b_bool : mg "bool" = none) : FnOk P w K mg base (L2.CX P w) 1 f fd P_is_integer (spD K mg 1 m_is_integer) := by
  refine fn_mk (k := 0) (g := g_is_integer) F sc_is_integer fun cdv A outer s H E hr => ?_
  have nd := sc_is_integer.nd
  have tk : Takes (cxOf (L2.CX P w) P w K mg base N_is_integer "is_integer" (defScope s_is_integer) f cdv A outer s H E) (fun cls d _ H => E cls d H) := takes_of rfl rfl rfl rfl
  have po : PassesOwn (model P w) (cxOf (L2.CX P w) P w K mg base N_is_integer "is_integer" (defScope s_is_integer) f cdv A outer s H E).A (cxOf (L2.CX P w) P w K mg base N_is_integer "is_integer" (defScope s_is_integer) f cdv A outer s H E).env (cxOf (L2.CX P w) P w K mg base N_is_integer "is_integer" (defScope s_is_integer) f cdv A outer s H E).xe := passes_of rfl
  exact (dss_one (ds_ret (de_and (de_isi .int (de_var 0) b_isinstance b_int PyProof.Rows.boot_int) (de_andE (de_not (de_isi .bl (de_var 0) b_isinstance b_bool PyProof.Rows.boot_bool))))))
theorem d_is_integer {P : Program} {w : World} {K : PySem.W.Frag} {mg : Str → Option Value} {base : Heap} {f : Addr} {fd : FuncData} (F : FunD K "is_integer" "is_integer" (defArgs s_is_integer) (defBody s_is_integer) (defScope s_is_integer) [] [] f fd) (hmg : mg "is_integer" = some (.ref f)) (b_isinstance : mg "isinstance" = none) (b_int : mg "int" = none) (b_bool : mg "bool" = none) : Dfn P w K mg base 1 "is_integer" 1 m_is_integer :=
  dfn_of F hmg (FunD.bindsN F fun _ _ _ _ _ _ us hl => match us, hl with | [_], _ => rfl) (w_is_integer F b_isinstance b_int b_bool)

abbrev N_is_number : List Str := ["value", "modulus"]
abbrev P_is_number : List Str := ["value", "modulus"]
theorem sc_is_number : FnScope N_is_number P_is_number (defScope s_is_number) := ⟨rfl, rfl, rfl, by decide +kernel, rfl, by decide +kernel, by decide +kernel⟩
noncomputable def g_is_number : SF := (sRet (eAnd (eCall m_is_integer (aCons (eVar 0) aNil)) (eChain leG ltG (eC (.int 0)) (eVar 0) (eVar 1))))
noncomputable def m_is_number : List D → Hd → Option (Rs D) := mir N_is_number.length P_is_number.length g_is_number
theorem w_is_number {P : Program} {w : World} {K : PySem.W.Frag} {mg : Str → Option Value} {base : Heap} {f : Addr} {fd : FuncData} (F : FunD K "is_number" "is_number" (defArgs s_is_number) (defBody s_is_number) (defScope s_is_number) [] [] f fd) (F_is_integer : Dfn P w K mg base 1 "is_integer" 1 m_is_integer) : FnOk P w K mg base (L2.CX P w) 2 f fd P_is_number (spD K mg 2 m_is_number) := by
  refine fn_mk (k := 1) (g := g_is_number) F sc_is_number fun cdv A outer s H E hr => ?_
  have nd := sc_is_number.nd
  have tk : Takes (cxOf (L2.CX P w) P w K mg base N_is_number "is_number" (defScope s_is_number) f cdv A outer s H E) (fun cls d _ H => E cls d H) := takes_of rfl rfl rfl rfl
  have po : PassesOwn (model P w) (cxOf (L2.CX P w) P w K mg base N_is_number "is_number" (defScope s_is_number) f cdv A outer s H E).A (cxOf (L2.CX P w) P w K mg base N_is_number "is_number" (defScope s_is_number) f cdv A outer s H E).env (cxOf (L2.CX P w) P w K mg base N_is_number "is_number" (defScope s_is_number) f cdv A outer s H E).xe := passes_of rfl
  exact (dss_one (ds_ret (de_and (de_call (F_is_integer.mono (by decide)) tk hr (da_cons (de_var 0) da_nil)) (de_andE (de_chain op_le od_le op_lt od_lt de_int (de_var 0) (de_var 1))))))
theorem d_is_number {P : Program} {w : World} {K : PySem.W.Frag} {mg : Str → Option Value} {base : Heap} {f : Addr} {fd : FuncData} (F : FunD K "is_number" "is_number" (defArgs s_is_number) (defBody s_is_number) (defScope s_is_number) [] [] f fd) (hmg : mg "is_number" = some (.ref f)) (F_is_integer : Dfn P w K mg base 1 "is_integer" 1 m_is_integer) : Dfn P w K mg base 2 "is_number" 2 m_is_number :=
  dfn_of F hmg (FunD.bindsN F fun _ _ _ _ _ _ us hl => match us, hl with | [_, _], _ => rfl) (w_is_number F F_is_integer)

abbrev N_is_leaf : List Str := ["node", "values"]
abbrev P_is_leaf : List Str := ["node", "values"]
theorem sc_is_leaf : FnScope N_is_leaf P_is_leaf (defScope s_is_leaf) := ⟨rfl, rfl, rfl, by decide +kernel, rfl, by decide +kernel, by decide +kernel⟩
noncomputable def g_is_leaf : SF := (sSeq (sIf (tOr (tNot (tTru (eUn (isiG .tup) (eVar 0)))) (tOr (tVal (eOp neG (eUn lenD (eVar 0)) (eC (.int 2)))) (tVal (eOp neG (eOp ixG (eVar 0) (eC (.int 0))) (eC (.str "leaf")))))) (sRet (eC (.bl false))) sNil)
 (sRet (eCall m_is_number (aCons (eOp ixG (eVar 0) (eC (.int 1))) (aCons (eVar 1) aNil)))))
noncomputable def m_is_leaf : List D → Hd → Option (Rs D) := mir N_is_leaf.length P_is_leaf.length g_is_leaf
theorem w_is_leaf {P : Program} {w : World} {K : PySem.W.Frag} {mg : Str → Option Value} {base : Heap} {f : Addr} {fd : FuncData} (F : FunD K "is_leaf" "is_leaf" (defArgs s_is_leaf) (defBody s_is_leaf) (defScope s_is_leaf) [] [] f fd) (b_isinstance : mg "isinstance" = none) (b_tuple : mg "tuple" = none) (b_len : mg "len" = none) (F_is_number : Dfn P w K mg base 2 "is_number" 2 m_is_number) : FnOk P w K mg base (L2.CX P w) 3 f fd P_is_leaf (spD K mg 2 m_is_leaf) := by
  refine fn_mk (k := 2) (g := g_is_leaf) F sc_is_leaf fun cdv A outer s H E hr => ?_
  have nd := sc_is_leaf.nd
  have tk : Takes (cxOf (L2.CX P w) P w K mg base N_is_leaf "is_leaf" (defScope s_is_leaf) f cdv A outer s H E) (fun cls d _ H => E cls d H) := takes_of rfl rfl rfl rfl
  have po : PassesOwn (model P w) (cxOf (L2.CX P w) P w K mg base N_is_leaf "is_leaf" (defScope s_is_leaf) f cdv A outer s H E).A (cxOf (L2.CX P w) P w K mg base N_is_leaf "is_leaf" (defScope s_is_leaf) f cdv A outer s H E).env (cxOf (L2.CX P w) P w K mg base N_is_leaf "is_leaf" (defScope s_is_leaf) f cdv A outer s H E).xe := passes_of rfl
  exact (dss_cons (ds_if (dt_w (dw_or (dt_not (dt_tru (de_isi .tup (de_var 0) b_isinstance b_tuple PyProof.Rows.boot_tuple))) (dw_or (dt_cmp (op_neP hr.units) od_ne (de_len (de_var 0) b_len) de_int) (dw_or1 (dt_cmp (op_neP hr.units) od_ne (de_ix (de_var 0) de_int) de_str))))) (dss_one (ds_ret de_bl)) dss_nil)
 (dss_one (ds_ret (de_call (F_is_number.mono (by decide)) tk hr (da_cons (de_ix (de_var 0) de_int) (da_cons (de_var 1) da_nil))))))
theorem d_is_leaf {P : Program} {w : World} {K : PySem.W.Frag} {mg : Str → Option Value} {base : Heap} {f : Addr} {fd : FuncData} (F : FunD K "is_leaf" "is_leaf" (defArgs s_is_leaf) (defBody s_is_leaf) (defScope s_is_leaf) [] [] f fd) (hmg : mg "is_leaf" = some (.ref f)) (b_isinstance : mg "isinstance" = none) (b_tuple : mg "tuple" = none) (b_len : mg "len" = none) (F_is_number : Dfn P w K mg base 2 "is_number" 2 m_is_number) : Dfn P w K mg base 3 "is_leaf" 2 m_is_leaf :=
  dfn_of F hmg (FunD.bindsN F fun _ _ _ _ _ _ us hl => match us, hl with | [_, _], _ => rfl) (w_is_leaf F b_isinstance b_tuple b_len F_is_number)

abbrev N_is_table : List Str := ["table", "modulus", "row", "entry"]
abbrev P_is_table : List Str := ["table", "modulus"]
theorem sc_is_table : FnScope N_is_table P_is_table (defScope s_is_table) := ⟨rfl, rfl, rfl, by decide +kernel, rfl, by decide +kernel, by decide +kernel⟩
noncomputable def g_is_table : SF := (sSeq (sIf (tOr (tNot (tTru (eUn (isiG .tup) (eVar 0)))) (tNot (tVal (eChain leG leG (eC (.int 1)) (eUn lenD (eVar 0)) (eVar 1))))) (sRet (eC (.bl false))) sNil)
 (sSeq (sFor (seqI (eVar 0)) (.nm 2) (sSeq (sIf (tOr (tNot (tTru (eUn (isiG .tup) (eVar 2)))) (tVal (eOp neG (eUn lenD (eVar 2)) (eUn lenD (eVar 0))))) (sRet (eC (.bl false))) sNil)
 (sFor (seqI (eVar 2)) (.nm 3) (sIf (tNot (tTru (eCall m_is_number (aCons (eVar 3) (aCons (eVar 1) aNil))))) (sRet (eC (.bl false))) sNil))))
 (sRet (eC (.bl true)))))
noncomputable def m_is_table : List D → Hd → Option (Rs D) := mir N_is_table.length P_is_table.length g_is_table
theorem w_is_table {P : Program} {w : World} {K : PySem.W.Frag} {mg : Str → Option Value} {base : Heap} {f : Addr} {fd : FuncData} (F : FunD K "is_table" "is_table" (defArgs s_is_table) (defBody s_is_table) (defScope s_is_table) [] [] f fd) (b_isinstance : mg "isinstance" = none) (b_tuple : mg "tuple" = none) (b_len : mg "len" = none) (F_is_number : Dfn P w K mg base 2 "is_number" 2 m_is_number) : FnOk P w K mg base (L2.CX P w) 3 f fd P_is_table (spD K mg 2 m_is_table) := by
  refine fn_mk (k := 2) (g := g_is_table) F sc_is_table fun cdv A outer s H E hr => ?_
  have nd := sc_is_table.nd
  have tk : Takes (cxOf (L2.CX P w) P w K mg base N_is_table "is_table" (defScope s_is_table) f cdv A outer s H E) (fun cls d _ H => E cls d H) := takes_of rfl rfl rfl rfl
  have po : PassesOwn (model P w) (cxOf (L2.CX P w) P w K mg base N_is_table "is_table" (defScope s_is_table) f cdv A outer s H E).A (cxOf (L2.CX P w) P w K mg base N_is_table "is_table" (defScope s_is_table) f cdv A outer s H E).env (cxOf (L2.CX P w) P w K mg base N_is_table "is_table" (defScope s_is_table) f cdv A outer s H E).xe := passes_of rfl
  exact (dss_cons (ds_if (dt_w (dw_or (dt_not (dt_tru (de_isi .tup (de_var 0) b_isinstance b_tuple PyProof.Rows.boot_tuple))) (dw_or1 (dt_not (dt_chain op_le od_le op_le od_le de_int (de_len (de_var 0) b_len) (de_var 1)))))) (dss_one (ds_ret de_bl)) dss_nil)
 (dss_cons (ds_for po rfl (di_seq (de_var 0)) (dg_nm 2 nd) (dss_cons (ds_if (dt_w (dw_or (dt_not (dt_tru (de_isi .tup (de_var 2) b_isinstance b_tuple PyProof.Rows.boot_tuple))) (dw_or1 (dt_cmp (op_neP hr.units) od_ne (de_len (de_var 2) b_len) (de_len (de_var 0) b_len))))) (dss_one (ds_ret de_bl)) dss_nil)
 (dss_one (ds_for po rfl (di_seq (de_var 2)) (dg_nm 3 nd) (dss_one (ds_if (dt_not (dt_tru (de_call (F_is_number.mono (by decide)) tk hr (da_cons (de_var 3) (da_cons (de_var 1) da_nil))))) (dss_one (ds_ret de_bl)) dss_nil))))))
 (dss_one (ds_ret de_bl))))
theorem d_is_table {P : Program} {w : World} {K : PySem.W.Frag} {mg : Str → Option Value} {base : Heap} {f : Addr} {fd : FuncData} (F : FunD K "is_table" "is_table" (defArgs s_is_table) (defBody s_is_table) (defScope s_is_table) [] [] f fd) (hmg : mg "is_table" = some (.ref f)) (b_isinstance : mg "isinstance" = none) (b_tuple : mg "tuple" = none) (b_len : mg "len" = none) (F_is_number : Dfn P w K mg base 2 "is_number" 2 m_is_number) : Dfn P w K mg base 3 "is_table" 2 m_is_table :=
  dfn_of F hmg (FunD.bindsN F fun _ _ _ _ _ _ us hl => match us, hl with | [_, _], _ => rfl) (w_is_table F b_isinstance b_tuple b_len F_is_number)

abbrev N_is_inner : List Str := ["node", "values"]
abbrev P_is_inner : List Str := ["node", "values"]
theorem sc_is_inner : FnScope N_is_inner P_is_inner (defScope s_is_inner) := ⟨rfl, rfl, rfl, by decide +kernel, rfl, by decide +kernel, by decide +kernel⟩
noncomputable def g_is_inner : SF := (sSeq (sIf (tOr (tNot (tTru (eUn (isiG .tup) (eVar 0)))) (tOr (tVal (eOp neG (eUn lenD (eVar 0)) (eC (.int 4)))) (tVal (eOp neG (eOp ixG (eVar 0) (eC (.int 0))) (eC (.str "node")))))) (sRet (eC (.bl false))) sNil)
 (sRet (eAnd (eCall m_is_table (aCons (eOp ixG (eVar 0) (eC (.int 1))) (aCons (eVar 1) aNil))) (eOp eqG (eUn lenD (eOp ixG (eVar 0) (eC (.int 1)))) (eVar 1)))))
noncomputable def m_is_inner : List D → Hd → Option (Rs D) := mir N_is_inner.length P_is_inner.length g_is_inner
theorem w_is_inner {P : Program} {w : World} {K : PySem.W.Frag} {mg : Str → Option Value} {base : Heap} {f : Addr} {fd : FuncData} (F : FunD K "is_inner" "is_inner" (defArgs s_is_inner) (defBody s_is_inner) (defScope s_is_inner) [] [] f fd) (b_isinstance : mg "isinstance" = none) (b_tuple : mg "tuple" = none) (b_len : mg "len" = none) (F_is_table : Dfn P w K mg base 3 "is_table" 2 m_is_table) : FnOk P w K mg base (L2.CX P w) 4 f fd P_is_inner (spD K mg 2 m_is_inner) := by
  refine fn_mk (k := 3) (g := g_is_inner) F sc_is_inner fun cdv A outer s H E hr => ?_
  have nd := sc_is_inner.nd
  have tk : Takes (cxOf (L2.CX P w) P w K mg base N_is_inner "is_inner" (defScope s_is_inner) f cdv A outer s H E) (fun cls d _ H => E cls d H) := takes_of rfl rfl rfl rfl
  have po : PassesOwn (model P w) (cxOf (L2.CX P w) P w K mg base N_is_inner "is_inner" (defScope s_is_inner) f cdv A outer s H E).A (cxOf (L2.CX P w) P w K mg base N_is_inner "is_inner" (defScope s_is_inner) f cdv A outer s H E).env (cxOf (L2.CX P w) P w K mg base N_is_inner "is_inner" (defScope s_is_inner) f cdv A outer s H E).xe := passes_of rfl
  exact (dss_cons (ds_if (dt_w (dw_or (dt_not (dt_tru (de_isi .tup (de_var 0) b_isinstance b_tuple PyProof.Rows.boot_tuple))) (dw_or (dt_cmp (op_neP hr.units) od_ne (de_len (de_var 0) b_len) de_int) (dw_or1 (dt_cmp (op_neP hr.units) od_ne (de_ix (de_var 0) de_int) de_str))))) (dss_one (ds_ret de_bl)) dss_nil)
 (dss_one (ds_ret (de_and (de_call (F_is_table.mono (by decide)) tk hr (da_cons (de_ix (de_var 0) de_int) (da_cons (de_var 1) da_nil))) (de_andE (de_cmp (op_eqP hr.units) od_eq (de_len (de_ix (de_var 0) de_int) b_len) (de_var 1)))))))
theorem d_is_inner {P : Program} {w : World} {K : PySem.W.Frag} {mg : Str → Option Value} {base : Heap} {f : Addr} {fd : FuncData} (F : FunD K "is_inner" "is_inner" (defArgs s_is_inner) (defBody s_is_inner) (defScope s_is_inner) [] [] f fd) (hmg : mg "is_inner" = some (.ref f)) (b_isinstance : mg "isinstance" = none) (b_tuple : mg "tuple" = none) (b_len : mg "len" = none) (F_is_table : Dfn P w K mg base 3 "is_table" 2 m_is_table) : Dfn P w K mg base 4 "is_inner" 2 m_is_inner :=
  dfn_of F hmg (FunD.bindsN F fun _ _ _ _ _ _ us hl => match us, hl with | [_, _], _ => rfl) (w_is_inner F b_isinstance b_tuple b_len F_is_table)

abbrev N_listed : List Str := ["tree", "values", "rows", "places", "tasks", "node", "depth", "opened", "right", "left"]
abbrev P_listed : List Str := ["tree", "values"]
theorem sc_listed : FnScope N_listed P_listed (defScope s_listed) := ⟨rfl, rfl, rfl, by decide +kernel, rfl, by decide +kernel, by decide +kernel⟩
noncomputable def g_listed : SF := (sSeq (sAsg 2 (eLst aNil))
 (sSeq (sAsg 3 (eLst aNil))
 (sSeq (sAsg 4 (eLst (aCons (eTup (aCons (eVar 0) (aCons (eC (.int 1)) (aCons (eC (.bl false)) aNil)))) aNil)))
 (sSeq (sWhile (tTru (eVar 4)) (sSeq (sAsgT [5, 6, 7] (eLm popG (eVar 4) aNil))
 (sSeq (sIf (tTru (eVar 7)) (sSeq (sAsg 8 (eLm popG (eVar 3) aNil))
 (sSeq (sAsg 9 (eLm popG (eVar 3) aNil))
 (sSeq (sDrop (eLm appendG (eVar 2) (aCons (eTup (aCons (eVar 5) (aCons (eVar 9) (aCons (eVar 8) aNil)))) aNil)))
 (sSeq (sDrop (eLm appendG (eVar 3) (aCons (eOp subG (eUn lenD (eVar 2)) (eC (.int 1))) aNil)))
 sCont)))) sNil)
 (sSeq (sIf (tOr (tVal (eOp gtG (eVar 6) (eC (.int 40)))) (tVal (eOp geG (eOp addG (eUn lenD (eVar 2)) (eUn lenD (eVar 4))) (eC (.int 200))))) (sRaise "BadTree") sNil)
 (sIf (tTru (eCall m_is_leaf (aCons (eVar 5) (aCons (eVar 1) aNil)))) (sSeq (sDrop (eLm appendG (eVar 2) (aCons (eTup (aCons (eVar 5) (aCons (eUn negG (eC (.int 1))) (aCons (eUn negG (eC (.int 1))) aNil)))) aNil)))
 (sDrop (eLm appendG (eVar 3) (aCons (eOp subG (eUn lenD (eVar 2)) (eC (.int 1))) aNil)))) (sIf (tTru (eCall m_is_inner (aCons (eVar 5) (aCons (eVar 1) aNil)))) (sSeq (sDrop (eLm appendG (eVar 4) (aCons (eTup (aCons (eVar 5) (aCons (eVar 6) (aCons (eC (.bl true)) aNil)))) aNil)))
 (sSeq (sDrop (eLm appendG (eVar 4) (aCons (eTup (aCons (eOp ixG (eVar 5) (eC (.int 3))) (aCons (eOp addG (eVar 6) (eC (.int 1))) (aCons (eC (.bl false)) aNil)))) aNil)))
 (sDrop (eLm appendG (eVar 4) (aCons (eTup (aCons (eOp ixG (eVar 5) (eC (.int 2))) (aCons (eOp addG (eVar 6) (eC (.int 1))) (aCons (eC (.bl false)) aNil)))) aNil))))) (sRaise "BadTree")))))))
 (sRet (eVar 2))))))
noncomputable def m_listed : List D → Hd → Option (Rs D) := mir N_listed.length P_listed.length g_listed
theorem w_listed {P : Program} {w : World} {K : PySem.W.Frag} {mg : Str → Option Value} {base : Heap} {f : Addr} {fd : FuncData} (F : FunD K "listed" "listed" (defArgs s_listed) (defBody s_listed) (defScope s_listed) [] [] f fd) (b_len : mg "len" = none) (c_NESTED : ∃ u, mg "NESTED" = some u ∧ RelV (.int  40) u) (c_NODES : ∃ u, mg "NODES" = some u ∧ RelV (.int  200) u) (F_is_leaf : Dfn P w K mg base 3 "is_leaf" 2 m_is_leaf) (F_is_inner : Dfn P w K mg base 4 "is_inner" 2 m_is_inner) (x_BadTree : XCl K mg "BadTree") : FnOk P w K mg base (L2.CX P w) 5 f fd P_listed (spD K mg 2 m_listed) := by
  refine fn_mk (k := 4) (g := g_listed) F sc_listed fun cdv A outer s H E hr => ?_
  have nd := sc_listed.nd
  have tk : Takes (cxOf (L2.CX P w) P w K mg base N_listed "listed" (defScope s_listed) f cdv A outer s H E) (fun cls d _ H => E cls d H) := takes_of rfl rfl rfl rfl
  have po : PassesOwn (model P w) (cxOf (L2.CX P w) P w K mg base N_listed "listed" (defScope s_listed) f cdv A outer s H E).A (cxOf (L2.CX P w) P w K mg base N_listed "listed" (defScope s_listed) f cdv A outer s H E).env (cxOf (L2.CX P w) P w K mg base N_listed "listed" (defScope s_listed) f cdv A outer s H E).xe := passes_of rfl
  exact (dss_cons (ds_set 2 nd (de_lst da_nil))
 (dss_cons (ds_set 3 nd (de_lst da_nil))
 (dss_cons (ds_set 4 nd (de_lst (da_cons (de_tup (da_cons (de_var 0) (da_cons de_int (da_cons de_bl da_nil)))) da_nil)))
 (dss_cons (ds_while (hp := po) (dt_tru (de_var 4)) (dss_cons (ds_asgT (de_pop (de_var 4)) (dg_tp rfl (dgs_cons 5 nd (dgs_cons 6 nd (dgs_cons 7 nd dgs_nil)))))
 (dss_cons (ds_if (dt_tru (de_var 7)) (dss_cons (ds_set 8 nd (de_pop (de_var 3)))
 (dss_cons (ds_set 9 nd (de_pop (de_var 3)))
 (dss_cons (ds_drop (de_append (de_var 2) (da_cons (de_tup (da_cons (de_var 5) (da_cons (de_var 9) (da_cons (de_var 8) da_nil)))) da_nil)))
 (dss_cons (ds_drop (de_append (de_var 3) (da_cons (de_op op_sub od_sub (de_len (de_var 2) b_len) de_int) da_nil)))
 (dss_one ds_cont))))) dss_nil)
 (dss_cons (ds_if (dt_w (dw_or (dt_cmp op_gt od_gt (de_var 6) (de_gi c_NESTED)) (dw_or1 (dt_cmp op_ge od_ge (de_op op_addD od_add (de_len (de_var 2) b_len) (de_len (de_var 4) b_len)) (de_gi c_NODES))))) (dss_one (ds_raise rfl tk x_BadTree)) dss_nil)
 (dss_one (ds_if (dt_tru (de_call (F_is_leaf.mono (by decide)) tk hr (da_cons (de_var 5) (da_cons (de_var 1) da_nil)))) (dss_cons (ds_drop (de_append (de_var 2) (da_cons (de_tup (da_cons (de_var 5) (da_cons (de_un un_neg ou_neg de_int) (da_cons (de_un un_neg ou_neg de_int) da_nil)))) da_nil)))
 (dss_one (ds_drop (de_append (de_var 3) (da_cons (de_op op_sub od_sub (de_len (de_var 2) b_len) de_int) da_nil))))) (dss_one (ds_if (dt_tru (de_call (F_is_inner.mono (by decide)) tk hr (da_cons (de_var 5) (da_cons (de_var 1) da_nil)))) (dss_cons (ds_drop (de_append (de_var 4) (da_cons (de_tup (da_cons (de_var 5) (da_cons (de_var 6) (da_cons de_bl da_nil)))) da_nil)))
 (dss_cons (ds_drop (de_append (de_var 4) (da_cons (de_tup (da_cons (de_ix (de_var 5) de_int) (da_cons (de_op op_addD od_add (de_var 6) de_int) (da_cons de_bl da_nil)))) da_nil)))
 (dss_one (ds_drop (de_append (de_var 4) (da_cons (de_tup (da_cons (de_ix (de_var 5) de_int) (da_cons (de_op op_addD od_add (de_var 6) de_int) (da_cons de_bl da_nil)))) da_nil)))))) (dss_one (ds_raise rfl tk x_BadTree))))))))))
 (dss_one (ds_ret (de_var 2)))))))
theorem d_listed {P : Program} {w : World} {K : PySem.W.Frag} {mg : Str → Option Value} {base : Heap} {f : Addr} {fd : FuncData} (F : FunD K "listed" "listed" (defArgs s_listed) (defBody s_listed) (defScope s_listed) [] [] f fd) (hmg : mg "listed" = some (.ref f)) (b_len : mg "len" = none) (c_NESTED : ∃ u, mg "NESTED" = some u ∧ RelV (.int  40) u) (c_NODES : ∃ u, mg "NODES" = some u ∧ RelV (.int  200) u) (F_is_leaf : Dfn P w K mg base 3 "is_leaf" 2 m_is_leaf) (F_is_inner : Dfn P w K mg base 4 "is_inner" 2 m_is_inner) (x_BadTree : XCl K mg "BadTree") : Dfn P w K mg base 5 "listed" 2 m_listed :=
  dfn_of F hmg (FunD.bindsN F fun _ _ _ _ _ _ us hl => match us, hl with | [_, _], _ => rfl) (w_listed F b_len c_NESTED c_NODES F_is_leaf F_is_inner x_BadTree)

abbrev N_rows_of : List Str := ["tree", "values", "rows"]
abbrev P_rows_of : List Str := ["tree", "values"]
theorem sc_rows_of : FnScope N_rows_of P_rows_of (defScope s_rows_of) := ⟨rfl, rfl, rfl, by decide +kernel, rfl, by decide +kernel, by decide +kernel⟩
noncomputable def g_rows_of : SF := (sSeq (sIf (tOr (tNot (tTru (eCall m_is_integer (aCons (eVar 1) aNil)))) (tNot (tVal (eChain leG leG (eC (.int 1)) (eVar 1) (eC (.int 40)))))) (sRaise "BadTree") sNil)
 (sSeq (sAsg 2 (eCall m_listed (aCons (eVar 0) (aCons (eVar 1) aNil))))
 (sSeq (sIf (tVal (eOp gtG (eUn lenD (eVar 2)) (eC (.int 200)))) (sRaise "BadTree") sNil)
 (sRet (eVar 2)))))
noncomputable def m_rows_of : List D → Hd → Option (Rs D) := mir N_rows_of.length P_rows_of.length g_rows_of
theorem w_rows_of {P : Program} {w : World} {K : PySem.W.Frag} {mg : Str → Option Value} {base : Heap} {f : Addr} {fd : FuncData} (F : FunD K "rows_of" "rows_of" (defArgs s_rows_of) (defBody s_rows_of) (defScope s_rows_of) [] [] f fd) (b_len : mg "len" = none) (c_VALUES : ∃ u, mg "VALUES" = some u ∧ RelV (.int  40) u) (c_NODES : ∃ u, mg "NODES" = some u ∧ RelV (.int  200) u) (F_is_integer : Dfn P w K mg base 1 "is_integer" 1 m_is_integer) (F_listed : Dfn P w K mg base 5 "listed" 2 m_listed) (x_BadTree : XCl K mg "BadTree") : FnOk P w K mg base (L2.CX P w) 6 f fd P_rows_of (spD K mg 2 m_rows_of) := by
  refine fn_mk (k := 5) (g := g_rows_of) F sc_rows_of fun cdv A outer s H E hr => ?_
  have nd := sc_rows_of.nd
  have tk : Takes (cxOf (L2.CX P w) P w K mg base N_rows_of "rows_of" (defScope s_rows_of) f cdv A outer s H E) (fun cls d _ H => E cls d H) := takes_of rfl rfl rfl rfl
  have po : PassesOwn (model P w) (cxOf (L2.CX P w) P w K mg base N_rows_of "rows_of" (defScope s_rows_of) f cdv A outer s H E).A (cxOf (L2.CX P w) P w K mg base N_rows_of "rows_of" (defScope s_rows_of) f cdv A outer s H E).env (cxOf (L2.CX P w) P w K mg base N_rows_of "rows_of" (defScope s_rows_of) f cdv A outer s H E).xe := passes_of rfl
  exact (dss_cons (ds_if (dt_w (dw_or (dt_not (dt_tru (de_call (F_is_integer.mono (by decide)) tk hr (da_cons (de_var 1) da_nil)))) (dw_or1 (dt_not (dt_chain op_le od_le op_le od_le de_int (de_var 1) (de_gi c_VALUES)))))) (dss_one (ds_raise rfl tk x_BadTree)) dss_nil)
 (dss_cons (ds_set 2 nd (de_call (F_listed.mono (by decide)) tk hr (da_cons (de_var 0) (da_cons (de_var 1) da_nil))))
 (dss_cons (ds_if (dt_cmp op_gt od_gt (de_len (de_var 2) b_len) (de_gi c_NODES)) (dss_one (ds_raise rfl tk x_BadTree)) dss_nil)
 (dss_one (ds_ret (de_var 2))))))
theorem d_rows_of {P : Program} {w : World} {K : PySem.W.Frag} {mg : Str → Option Value} {base : Heap} {f : Addr} {fd : FuncData} (F : FunD K "rows_of" "rows_of" (defArgs s_rows_of) (defBody s_rows_of) (defScope s_rows_of) [] [] f fd) (hmg : mg "rows_of" = some (.ref f)) (b_len : mg "len" = none) (c_VALUES : ∃ u, mg "VALUES" = some u ∧ RelV (.int  40) u) (c_NODES : ∃ u, mg "NODES" = some u ∧ RelV (.int  200) u) (F_is_integer : Dfn P w K mg base 1 "is_integer" 1 m_is_integer) (F_listed : Dfn P w K mg base 5 "listed" 2 m_listed) (x_BadTree : XCl K mg "BadTree") : Dfn P w K mg base 6 "rows_of" 2 m_rows_of :=
  dfn_of F hmg (FunD.bindsN F fun _ _ _ _ _ _ us hl => match us, hl with | [_, _], _ => rfl) (w_rows_of F b_len c_VALUES c_NODES F_is_integer F_listed x_BadTree)

abbrev N_tree_value : List Str := ["tree", "values", "found", "node", "left", "right"]
abbrev P_tree_value : List Str := ["tree", "values"]
theorem sc_tree_value : FnScope N_tree_value P_tree_value (defScope s_tree_value) := ⟨rfl, rfl, rfl, by decide +kernel, rfl, by decide +kernel, by decide +kernel⟩
noncomputable def g_tree_value : SF := (sSeq (sAsg 2 (eLst aNil))
 (sSeq (sFor (seqI (eCall m_rows_of (aCons (eVar 0) (aCons (eVar 1) aNil)))) (.tp [3, 4, 5]) (sIf (tVal (eOp ltG (eVar 4) (eC (.int 0)))) (sDrop (eLm appendG (eVar 2) (aCons (eOp ixG (eVar 3) (eC (.int 1))) aNil))) (sDrop (eLm appendG (eVar 2) (aCons (eOp ixG (eOp ixG (eOp ixG (eVar 3) (eC (.int 1))) (eOp ixG (eVar 2) (eVar 4))) (eOp ixG (eVar 2) (eVar 5))) aNil)))))
 (sRet (eOp ixG (eVar 2) (eUn negG (eC (.int 1)))))))
noncomputable def m_tree_value : List D → Hd → Option (Rs D) := mir N_tree_value.length P_tree_value.length g_tree_value
theorem w_tree_value {P : Program} {w : World} {K : PySem.W.Frag} {mg : Str → Option Value} {base : Heap} {f : Addr} {fd : FuncData} (F : FunD K "tree_value" "tree_value" (defArgs s_tree_value) (defBody s_tree_value) (defScope s_tree_value) [] [] f fd) (F_rows_of : Dfn P w K mg base 6 "rows_of" 2 m_rows_of) : FnOk P w K mg base (L2.CX P w) 7 f fd P_tree_value (spD K mg 2 m_tree_value) := by
  refine fn_mk (k := 6) (g := g_tree_value) F sc_tree_value fun cdv A outer s H E hr => ?_
  have nd := sc_tree_value.nd
  have tk : Takes (cxOf (L2.CX P w) P w K mg base N_tree_value "tree_value" (defScope s_tree_value) f cdv A outer s H E) (fun cls d _ H => E cls d H) := takes_of rfl rfl rfl rfl
  have po : PassesOwn (model P w) (cxOf (L2.CX P w) P w K mg base N_tree_value "tree_value" (defScope s_tree_value) f cdv A outer s H E).A (cxOf (L2.CX P w) P w K mg base N_tree_value "tree_value" (defScope s_tree_value) f cdv A outer s H E).env (cxOf (L2.CX P w) P w K mg base N_tree_value "tree_value" (defScope s_tree_value) f cdv A outer s H E).xe := passes_of rfl
  exact (dss_cons (ds_set 2 nd (de_lst da_nil))
 (dss_cons (ds_for po rfl (di_seq (de_call (F_rows_of.mono (by decide)) tk hr (da_cons (de_var 0) (da_cons (de_var 1) da_nil)))) (dg_tp rfl (dgs_cons 3 nd (dgs_cons 4 nd (dgs_cons 5 nd dgs_nil)))) (dss_one (ds_if (dt_cmp op_lt od_lt (de_var 4) de_int) (dss_one (ds_drop (de_append (de_var 2) (da_cons (de_ix (de_var 3) de_int) da_nil)))) (dss_one (ds_drop (de_append (de_var 2) (da_cons (de_ix (de_ix (de_ix (de_var 3) de_int) (de_ix (de_var 2) (de_var 4))) (de_ix (de_var 2) (de_var 5))) da_nil)))))))
 (dss_one (ds_ret (de_ix (de_var 2) (de_un un_neg ou_neg de_int))))))
theorem d_tree_value {P : Program} {w : World} {K : PySem.W.Frag} {mg : Str → Option Value} {base : Heap} {f : Addr} {fd : FuncData} (F : FunD K "tree_value" "tree_value" (defArgs s_tree_value) (defBody s_tree_value) (defScope s_tree_value) [] [] f fd) (hmg : mg "tree_value" = some (.ref f)) (F_rows_of : Dfn P w K mg base 6 "rows_of" 2 m_rows_of) : Dfn P w K mg base 7 "tree_value" 2 m_tree_value :=
  dfn_of F hmg (FunD.bindsN F fun _ _ _ _ _ _ us hl => match us, hl with | [_, _], _ => rfl) (w_tree_value F F_rows_of)

abbrev N_check_tree : List Str := ["tree", "values"]
abbrev P_check_tree : List Str := ["tree", "values"]
theorem sc_check_tree : FnScope N_check_tree P_check_tree (defScope s_check_tree) := ⟨rfl, rfl, rfl, by decide +kernel, rfl, by decide +kernel, by decide +kernel⟩
noncomputable def g_check_tree : SF := (sDrop (eCall m_rows_of (aCons (eVar 0) (aCons (eVar 1) aNil))))
noncomputable def m_check_tree : List D → Hd → Option (Rs D) := mir N_check_tree.length P_check_tree.length g_check_tree
theorem w_check_tree {P : Program} {w : World} {K : PySem.W.Frag} {mg : Str → Option Value} {base : Heap} {f : Addr} {fd : FuncData} (F : FunD K "check_tree" "check_tree" (defArgs s_check_tree) (defBody s_check_tree) (defScope s_check_tree) [] [] f fd) (F_rows_of : Dfn P w K mg base 6 "rows_of" 2 m_rows_of) : FnOk P w K mg base (L2.CX P w) 7 f fd P_check_tree (spD K mg 2 m_check_tree) := by
  refine fn_mk (k := 6) (g := g_check_tree) F sc_check_tree fun cdv A outer s H E hr => ?_
  have nd := sc_check_tree.nd
  have tk : Takes (cxOf (L2.CX P w) P w K mg base N_check_tree "check_tree" (defScope s_check_tree) f cdv A outer s H E) (fun cls d _ H => E cls d H) := takes_of rfl rfl rfl rfl
  have po : PassesOwn (model P w) (cxOf (L2.CX P w) P w K mg base N_check_tree "check_tree" (defScope s_check_tree) f cdv A outer s H E).A (cxOf (L2.CX P w) P w K mg base N_check_tree "check_tree" (defScope s_check_tree) f cdv A outer s H E).env (cxOf (L2.CX P w) P w K mg base N_check_tree "check_tree" (defScope s_check_tree) f cdv A outer s H E).xe := passes_of rfl
  exact (dss_one (ds_drop (de_call (F_rows_of.mono (by decide)) tk hr (da_cons (de_var 0) (da_cons (de_var 1) da_nil)))))
theorem d_check_tree {P : Program} {w : World} {K : PySem.W.Frag} {mg : Str → Option Value} {base : Heap} {f : Addr} {fd : FuncData} (F : FunD K "check_tree" "check_tree" (defArgs s_check_tree) (defBody s_check_tree) (defScope s_check_tree) [] [] f fd) (hmg : mg "check_tree" = some (.ref f)) (F_rows_of : Dfn P w K mg base 6 "rows_of" 2 m_rows_of) : Dfn P w K mg base 7 "check_tree" 2 m_check_tree :=
  dfn_of F hmg (FunD.bindsN F fun _ _ _ _ _ _ us hl => match us, hl with | [_, _], _ => rfl) (w_check_tree F F_rows_of)

abbrev N_is_prime : List Str := ["n", "divisor"]
abbrev P_is_prime : List Str := ["n"]
theorem sc_is_prime : FnScope N_is_prime P_is_prime (defScope s_is_prime) := ⟨rfl, rfl, rfl, by decide +kernel, rfl, by decide +kernel, by decide +kernel⟩
noncomputable def g_is_prime : SF := (sSeq (sIf (tVal (eOp ltG (eVar 0) (eC (.int 2)))) (sRet (eC (.bl false))) sNil)
 (sSeq (sIf (tVal (eOp eqG (eOp modG (eVar 0) (eC (.int 2))) (eC (.int 0)))) (sRet (eOp eqG (eVar 0) (eC (.int 2)))) sNil)
 (sSeq (sAsg 1 (eC (.int 3)))
 (sSeq (sWhile (tVal (eOp leG (eOp mulG (eVar 1) (eVar 1)) (eVar 0))) (sSeq (sIf (tVal (eOp eqG (eOp modG (eVar 0) (eVar 1)) (eC (.int 0)))) (sRet (eC (.bl false))) sNil)
 (sAug addIG 1 (eC (.int 2)))))
 (sRet (eC (.bl true)))))))
noncomputable def m_is_prime : List D → Hd → Option (Rs D) := mir N_is_prime.length P_is_prime.length g_is_prime
theorem w_is_prime {P : Program} {w : World} {K : PySem.W.Frag} {mg : Str → Option Value} {base : Heap} {f : Addr} {fd : FuncData} (F : FunD K "is_prime" "is_prime" (defArgs s_is_prime) (defBody s_is_prime) (defScope s_is_prime) [] [] f fd) : FnOk P w K mg base (L2.CX P w) 1 f fd P_is_prime (spD K mg 1 m_is_prime) := by
  refine fn_mk (k := 0) (g := g_is_prime) F sc_is_prime fun cdv A outer s H E hr => ?_
  have nd := sc_is_prime.nd
  have tk : Takes (cxOf (L2.CX P w) P w K mg base N_is_prime "is_prime" (defScope s_is_prime) f cdv A outer s H E) (fun cls d _ H => E cls d H) := takes_of rfl rfl rfl rfl
  have po : PassesOwn (model P w) (cxOf (L2.CX P w) P w K mg base N_is_prime "is_prime" (defScope s_is_prime) f cdv A outer s H E).A (cxOf (L2.CX P w) P w K mg base N_is_prime "is_prime" (defScope s_is_prime) f cdv A outer s H E).env (cxOf (L2.CX P w) P w K mg base N_is_prime "is_prime" (defScope s_is_prime) f cdv A outer s H E).xe := passes_of rfl
  exact (dss_cons (ds_if (dt_cmp op_lt od_lt (de_var 0) de_int) (dss_one (ds_ret de_bl)) dss_nil)
 (dss_cons (ds_if (dt_cmp (op_eqP hr.units) od_eq (de_op op_mod od_mod (de_var 0) de_int) de_int) (dss_one (ds_ret (de_cmp (op_eqP hr.units) od_eq (de_var 0) de_int))) dss_nil)
 (dss_cons (ds_set 1 nd de_int)
 (dss_cons (ds_while (hp := po) (dt_cmp op_le od_le (de_op op_mulD od_mul (de_var 1) (de_var 1)) (de_var 0)) (dss_cons (ds_if (dt_cmp (op_eqP hr.units) od_eq (de_op op_mod od_mod (de_var 0) (de_var 1)) de_int) (dss_one (ds_ret de_bl)) dss_nil)
 (dss_one (ds_aug 1 nd (ip_op iop_add) od_addI de_int))))
 (dss_one (ds_ret de_bl))))))
theorem d_is_prime {P : Program} {w : World} {K : PySem.W.Frag} {mg : Str → Option Value} {base : Heap} {f : Addr} {fd : FuncData} (F : FunD K "is_prime" "is_prime" (defArgs s_is_prime) (defBody s_is_prime) (defScope s_is_prime) [] [] f fd) (hmg : mg "is_prime" = some (.ref f)) : Dfn P w K mg base 1 "is_prime" 1 m_is_prime :=
  dfn_of F hmg (FunD.bindsN F fun _ _ _ _ _ _ us hl => match us, hl with | [_], _ => rfl) (w_is_prime F)

abbrev N_prime_of : List Str := ["values", "prime"]
abbrev P_prime_of : List Str := ["values"]
theorem sc_prime_of : FnScope N_prime_of P_prime_of (defScope s_prime_of) := ⟨rfl, rfl, rfl, by decide +kernel, rfl, by decide +kernel, by decide +kernel⟩
noncomputable def g_prime_of : SF := (sSeq (sIf (tOr (tNot (tTru (eCall m_is_integer (aCons (eVar 0) aNil)))) (tNot (tVal (eChain leG leG (eC (.int 1)) (eVar 0) (eC (.int 40)))))) (sRaise "BadTree") sNil)
 (sSeq (sAsg 1 (eCB max2 (aCons (eC (.int 3)) (aCons (eOp mulG (eC (.int 2)) (eVar 0)) aNil))))
 (sSeq (sWhile (tNot (tTru (eCall m_is_prime (aCons (eVar 1) aNil)))) (sAug addIG 1 (eC (.int 1))))
 (sRet (eVar 1)))))
noncomputable def m_prime_of : List D → Hd → Option (Rs D) := mir N_prime_of.length P_prime_of.length g_prime_of
theorem w_prime_of {P : Program} {w : World} {K : PySem.W.Frag} {mg : Str → Option Value} {base : Heap} {f : Addr} {fd : FuncData} (F : FunD K "prime_of" "prime_of" (defArgs s_prime_of) (defBody s_prime_of) (defScope s_prime_of) [] [] f fd) (b_max : mg "max" = none) (c_VALUES : ∃ u, mg "VALUES" = some u ∧ RelV (.int  40) u) (F_is_integer : Dfn P w K mg base 1 "is_integer" 1 m_is_integer) (F_is_prime : Dfn P w K mg base 1 "is_prime" 1 m_is_prime) (x_BadTree : XCl K mg "BadTree") : FnOk P w K mg base (L2.CX P w) 2 f fd P_prime_of (spD K mg 1 m_prime_of) := by
  refine fn_mk (k := 1) (g := g_prime_of) F sc_prime_of fun cdv A outer s H E hr => ?_
  have nd := sc_prime_of.nd
  have tk : Takes (cxOf (L2.CX P w) P w K mg base N_prime_of "prime_of" (defScope s_prime_of) f cdv A outer s H E) (fun cls d _ H => E cls d H) := takes_of rfl rfl rfl rfl
  have po : PassesOwn (model P w) (cxOf (L2.CX P w) P w K mg base N_prime_of "prime_of" (defScope s_prime_of) f cdv A outer s H E).A (cxOf (L2.CX P w) P w K mg base N_prime_of "prime_of" (defScope s_prime_of) f cdv A outer s H E).env (cxOf (L2.CX P w) P w K mg base N_prime_of "prime_of" (defScope s_prime_of) f cdv A outer s H E).xe := passes_of rfl
  exact (dss_cons (ds_if (dt_w (dw_or (dt_not (dt_tru (de_call (F_is_integer.mono (by decide)) tk hr (da_cons (de_var 0) da_nil)))) (dw_or1 (dt_not (dt_chain op_le od_le op_le od_le de_int (de_var 0) (de_gi c_VALUES)))))) (dss_one (ds_raise rfl tk x_BadTree)) dss_nil)
 (dss_cons (ds_set 1 nd (de_max2 rfl (da_cons de_int (da_cons (de_op op_mulD od_mul de_int (de_var 0)) da_nil)) b_max))
 (dss_cons (ds_while (hp := po) (dt_not (dt_tru (de_call (F_is_prime.mono (by decide)) tk hr (da_cons (de_var 1) da_nil)))) (dss_one (ds_aug 1 nd (ip_op iop_add) od_addI de_int)))
 (dss_one (ds_ret (de_var 1))))))
theorem d_prime_of {P : Program} {w : World} {K : PySem.W.Frag} {mg : Str → Option Value} {base : Heap} {f : Addr} {fd : FuncData} (F : FunD K "prime_of" "prime_of" (defArgs s_prime_of) (defBody s_prime_of) (defScope s_prime_of) [] [] f fd) (hmg : mg "prime_of" = some (.ref f)) (b_max : mg "max" = none) (c_VALUES : ∃ u, mg "VALUES" = some u ∧ RelV (.int  40) u) (F_is_integer : Dfn P w K mg base 1 "is_integer" 1 m_is_integer) (F_is_prime : Dfn P w K mg base 1 "is_prime" 1 m_is_prime) (x_BadTree : XCl K mg "BadTree") : Dfn P w K mg base 2 "prime_of" 1 m_prime_of :=
  dfn_of F hmg (FunD.bindsN F fun _ _ _ _ _ _ us hl => match us, hl with | [_], _ => rfl) (w_prime_of F b_max c_VALUES F_is_integer F_is_prime x_BadTree)

abbrev N_tree_cost : List Str := ["tree", "values", "rows", "prime", "costs", "_", "left", "right"]
abbrev P_tree_cost : List Str := ["tree", "values"]
theorem sc_tree_cost : FnScope N_tree_cost P_tree_cost (defScope s_tree_cost) := ⟨rfl, rfl, rfl, by decide +kernel, rfl, by decide +kernel, by decide +kernel⟩
noncomputable def g_tree_cost : SF := (sSeq (sAsg 2 (eCall m_rows_of (aCons (eVar 0) (aCons (eVar 1) aNil))))
 (sSeq (sAsg 3 (eCall m_prime_of (aCons (eVar 1) aNil)))
 (sSeq (sAsg 4 (eLst aNil))
 (sSeq (sFor (seqI (eVar 2)) (.tp [5, 6, 7]) (sIf (tVal (eOp ltG (eVar 6) (eC (.int 0)))) (sDrop (eLm appendG (eVar 4) (aCons (eC (.int 1)) aNil))) (sDrop (eLm appendG (eVar 4) (aCons (eOp mulG (eOp subG (eVar 3) (eC (.int 1))) (eOp addG (eOp mulG (eC (.int 2)) (eOp addG (eOp ixG (eVar 4) (eVar 6)) (eOp ixG (eVar 4) (eVar 7)))) (eC (.int 5)))) aNil)))))
 (sRet (eOp ixG (eVar 4) (eUn negG (eC (.int 1)))))))))
noncomputable def m_tree_cost : List D → Hd → Option (Rs D) := mir N_tree_cost.length P_tree_cost.length g_tree_cost
theorem w_tree_cost {P : Program} {w : World} {K : PySem.W.Frag} {mg : Str → Option Value} {base : Heap} {f : Addr} {fd : FuncData} (F : FunD K "tree_cost" "tree_cost" (defArgs s_tree_cost) (defBody s_tree_cost) (defScope s_tree_cost) [] [] f fd) (F_rows_of : Dfn P w K mg base 6 "rows_of" 2 m_rows_of) (F_prime_of : Dfn P w K mg base 2 "prime_of" 1 m_prime_of) : FnOk P w K mg base (L2.CX P w) 7 f fd P_tree_cost (spD K mg 2 m_tree_cost) := by
  refine fn_mk (k := 6) (g := g_tree_cost) F sc_tree_cost fun cdv A outer s H E hr => ?_
  have nd := sc_tree_cost.nd
  have tk : Takes (cxOf (L2.CX P w) P w K mg base N_tree_cost "tree_cost" (defScope s_tree_cost) f cdv A outer s H E) (fun cls d _ H => E cls d H) := takes_of rfl rfl rfl rfl
  have po : PassesOwn (model P w) (cxOf (L2.CX P w) P w K mg base N_tree_cost "tree_cost" (defScope s_tree_cost) f cdv A outer s H E).A (cxOf (L2.CX P w) P w K mg base N_tree_cost "tree_cost" (defScope s_tree_cost) f cdv A outer s H E).env (cxOf (L2.CX P w) P w K mg base N_tree_cost "tree_cost" (defScope s_tree_cost) f cdv A outer s H E).xe := passes_of rfl
  exact (dss_cons (ds_set 2 nd (de_call (F_rows_of.mono (by decide)) tk hr (da_cons (de_var 0) (da_cons (de_var 1) da_nil))))
 (dss_cons (ds_set 3 nd (de_call (F_prime_of.mono (by decide)) tk hr (da_cons (de_var 1) da_nil)))
 (dss_cons (ds_set 4 nd (de_lst da_nil))
 (dss_cons (ds_for po rfl (di_seq (de_var 2)) (dg_tp rfl (dgs_cons 5 nd (dgs_cons 6 nd (dgs_cons 7 nd dgs_nil)))) (dss_one (ds_if (dt_cmp op_lt od_lt (de_var 6) de_int) (dss_one (ds_drop (de_append (de_var 4) (da_cons de_int da_nil)))) (dss_one (ds_drop (de_append (de_var 4) (da_cons (de_op op_mulD od_mul (de_op op_sub od_sub (de_var 3) de_int) (de_op op_addD od_add (de_op op_mulD od_mul de_int (de_op op_addD od_add (de_ix (de_var 4) (de_var 6)) (de_ix (de_var 4) (de_var 7)))) de_int)) da_nil)))))))
 (dss_one (ds_ret (de_ix (de_var 4) (de_un un_neg ou_neg de_int))))))))
theorem d_tree_cost {P : Program} {w : World} {K : PySem.W.Frag} {mg : Str → Option Value} {base : Heap} {f : Addr} {fd : FuncData} (F : FunD K "tree_cost" "tree_cost" (defArgs s_tree_cost) (defBody s_tree_cost) (defScope s_tree_cost) [] [] f fd) (hmg : mg "tree_cost" = some (.ref f)) (F_rows_of : Dfn P w K mg base 6 "rows_of" 2 m_rows_of) (F_prime_of : Dfn P w K mg base 2 "prime_of" 1 m_prime_of) : Dfn P w K mg base 7 "tree_cost" 2 m_tree_cost :=
  dfn_of F hmg (FunD.bindsN F fun _ _ _ _ _ _ us hl => match us, hl with | [_, _], _ => rfl) (w_tree_cost F F_rows_of F_prime_of)

abbrev N_is_factor : List Str := ["factor", "target", "cells", "inputs"]
abbrev P_is_factor : List Str := ["factor", "target", "cells", "inputs"]
theorem sc_is_factor : FnScope N_is_factor P_is_factor (defScope s_is_factor) := ⟨rfl, rfl, rfl, by decide +kernel, rfl, by decide +kernel, by decide +kernel⟩
noncomputable def g_is_factor : SF := (sSeq (sIf (tOr (tNot (tTru (eUn (isiG .tup) (eVar 0)))) (tVal (eOp neG (eUn lenD (eVar 0)) (eC (.int 2))))) (sRet (eC (.bl false))) sNil)
 (sSeq (sIf (tVal (eOp eqG (eOp ixG (eVar 0) (eC (.int 0))) (eC (.str "cell")))) (sRet (eAnd (eCall m_is_number (aCons (eOp ixG (eVar 0) (eC (.int 1))) (aCons (eVar 2) aNil))) (eOp neG (eOp ixG (eVar 0) (eC (.int 1))) (eVar 1)))) sNil)
 (sRet (eAnd (eOp eqG (eOp ixG (eVar 0) (eC (.int 0))) (eC (.str "input"))) (eCall m_is_number (aCons (eOp ixG (eVar 0) (eC (.int 1))) (aCons (eVar 3) aNil)))))))
noncomputable def m_is_factor : List D → Hd → Option (Rs D) := mir N_is_factor.length P_is_factor.length g_is_factor
theorem w_is_factor {P : Program} {w : World} {K : PySem.W.Frag} {mg : Str → Option Value} {base : Heap} {f : Addr} {fd : FuncData} (F : FunD K "is_factor" "is_factor" (defArgs s_is_factor) (defBody s_is_factor) (defScope s_is_factor) [] [] f fd) (b_isinstance : mg "isinstance" = none) (b_tuple : mg "tuple" = none) (b_len : mg "len" = none) (F_is_number : Dfn P w K mg base 2 "is_number" 2 m_is_number) : FnOk P w K mg base (L2.CX P w) 3 f fd P_is_factor (spD K mg 4 m_is_factor) := by
  refine fn_mk (k := 2) (g := g_is_factor) F sc_is_factor fun cdv A outer s H E hr => ?_
  have nd := sc_is_factor.nd
  have tk : Takes (cxOf (L2.CX P w) P w K mg base N_is_factor "is_factor" (defScope s_is_factor) f cdv A outer s H E) (fun cls d _ H => E cls d H) := takes_of rfl rfl rfl rfl
  have po : PassesOwn (model P w) (cxOf (L2.CX P w) P w K mg base N_is_factor "is_factor" (defScope s_is_factor) f cdv A outer s H E).A (cxOf (L2.CX P w) P w K mg base N_is_factor "is_factor" (defScope s_is_factor) f cdv A outer s H E).env (cxOf (L2.CX P w) P w K mg base N_is_factor "is_factor" (defScope s_is_factor) f cdv A outer s H E).xe := passes_of rfl
  exact (dss_cons (ds_if (dt_w (dw_or (dt_not (dt_tru (de_isi .tup (de_var 0) b_isinstance b_tuple PyProof.Rows.boot_tuple))) (dw_or1 (dt_cmp (op_neP hr.units) od_ne (de_len (de_var 0) b_len) de_int)))) (dss_one (ds_ret de_bl)) dss_nil)
 (dss_cons (ds_if (dt_cmp (op_eqP hr.units) od_eq (de_ix (de_var 0) de_int) de_str) (dss_one (ds_ret (de_and (de_call (F_is_number.mono (by decide)) tk hr (da_cons (de_ix (de_var 0) de_int) (da_cons (de_var 2) da_nil))) (de_andE (de_cmp (op_neP hr.units) od_ne (de_ix (de_var 0) de_int) (de_var 1)))))) dss_nil)
 (dss_one (ds_ret (de_and (de_cmp (op_eqP hr.units) od_eq (de_ix (de_var 0) de_int) de_str) (de_andE (de_call (F_is_number.mono (by decide)) tk hr (da_cons (de_ix (de_var 0) de_int) (da_cons (de_var 3) da_nil)))))))))
theorem d_is_factor {P : Program} {w : World} {K : PySem.W.Frag} {mg : Str → Option Value} {base : Heap} {f : Addr} {fd : FuncData} (F : FunD K "is_factor" "is_factor" (defArgs s_is_factor) (defBody s_is_factor) (defScope s_is_factor) [] [] f fd) (hmg : mg "is_factor" = some (.ref f)) (b_isinstance : mg "isinstance" = none) (b_tuple : mg "tuple" = none) (b_len : mg "len" = none) (F_is_number : Dfn P w K mg base 2 "is_number" 2 m_is_number) : Dfn P w K mg base 3 "is_factor" 4 m_is_factor :=
  dfn_of F hmg (FunD.bindsN F fun _ _ _ _ _ _ us hl => match us, hl with | [_, _, _, _], _ => rfl) (w_is_factor F b_isinstance b_tuple b_len F_is_number)

abbrev N_is_add : List Str := ["step", "modulus", "cells", "inputs", "_", "target", "coefficient", "factors", "factor"]
abbrev P_is_add : List Str := ["step", "modulus", "cells", "inputs"]
theorem sc_is_add : FnScope N_is_add P_is_add (defScope s_is_add) := ⟨rfl, rfl, rfl, by decide +kernel, rfl, by decide +kernel, by decide +kernel⟩
noncomputable def g_is_add : SF := (sSeq (sAsgT [4, 5, 6, 7] (eVar 0))
 (sSeq (sIf (tOr (tNot (tTru (eCall m_is_number (aCons (eVar 5) (aCons (eVar 2) aNil))))) (tNot (tTru (eCall m_is_number (aCons (eVar 6) (aCons (eVar 1) aNil)))))) (sRet (eC (.bl false))) sNil)
 (sSeq (sIf (tOr (tNot (tTru (eUn (isiG .tup) (eVar 7)))) (tVal (eOp gtG (eUn lenD (eVar 7)) (eC (.int 3))))) (sRet (eC (.bl false))) sNil)
 (sSeq (sFor (seqI (eVar 7)) (.nm 8) (sIf (tNot (tTru (eCall m_is_factor (aCons (eVar 8) (aCons (eVar 5) (aCons (eVar 2) (aCons (eVar 3) aNil))))))) (sRet (eC (.bl false))) sNil))
 (sRet (eC (.bl true)))))))
noncomputable def m_is_add : List D → Hd → Option (Rs D) := mir N_is_add.length P_is_add.length g_is_add
theorem w_is_add {P : Program} {w : World} {K : PySem.W.Frag} {mg : Str → Option Value} {base : Heap} {f : Addr} {fd : FuncData} (F : FunD K "is_add" "is_add" (defArgs s_is_add) (defBody s_is_add) (defScope s_is_add) [] [] f fd) (b_isinstance : mg "isinstance" = none) (b_tuple : mg "tuple" = none) (b_len : mg "len" = none) (c_FACTORS : ∃ u, mg "FACTORS" = some u ∧ RelV (.int  3) u) (F_is_number : Dfn P w K mg base 2 "is_number" 2 m_is_number) (F_is_factor : Dfn P w K mg base 3 "is_factor" 4 m_is_factor) : FnOk P w K mg base (L2.CX P w) 4 f fd P_is_add (spD K mg 4 m_is_add) := by
  refine fn_mk (k := 3) (g := g_is_add) F sc_is_add fun cdv A outer s H E hr => ?_
  have nd := sc_is_add.nd
  have tk : Takes (cxOf (L2.CX P w) P w K mg base N_is_add "is_add" (defScope s_is_add) f cdv A outer s H E) (fun cls d _ H => E cls d H) := takes_of rfl rfl rfl rfl
  have po : PassesOwn (model P w) (cxOf (L2.CX P w) P w K mg base N_is_add "is_add" (defScope s_is_add) f cdv A outer s H E).A (cxOf (L2.CX P w) P w K mg base N_is_add "is_add" (defScope s_is_add) f cdv A outer s H E).env (cxOf (L2.CX P w) P w K mg base N_is_add "is_add" (defScope s_is_add) f cdv A outer s H E).xe := passes_of rfl
  exact (dss_cons (ds_asgT (de_var 0) (dg_tp rfl (dgs_cons 4 nd (dgs_cons 5 nd (dgs_cons 6 nd (dgs_cons 7 nd dgs_nil))))))
 (dss_cons (ds_if (dt_w (dw_or (dt_not (dt_tru (de_call (F_is_number.mono (by decide)) tk hr (da_cons (de_var 5) (da_cons (de_var 2) da_nil))))) (dw_or1 (dt_not (dt_tru (de_call (F_is_number.mono (by decide)) tk hr (da_cons (de_var 6) (da_cons (de_var 1) da_nil)))))))) (dss_one (ds_ret de_bl)) dss_nil)
 (dss_cons (ds_if (dt_w (dw_or (dt_not (dt_tru (de_isi .tup (de_var 7) b_isinstance b_tuple PyProof.Rows.boot_tuple))) (dw_or1 (dt_cmp op_gt od_gt (de_len (de_var 7) b_len) (de_gi c_FACTORS))))) (dss_one (ds_ret de_bl)) dss_nil)
 (dss_cons (ds_for po rfl (di_seq (de_var 7)) (dg_nm 8 nd) (dss_one (ds_if (dt_not (dt_tru (de_call (F_is_factor.mono (by decide)) tk hr (da_cons (de_var 8) (da_cons (de_var 5) (da_cons (de_var 2) (da_cons (de_var 3) da_nil))))))) (dss_one (ds_ret de_bl)) dss_nil)))
 (dss_one (ds_ret de_bl))))))
theorem d_is_add {P : Program} {w : World} {K : PySem.W.Frag} {mg : Str → Option Value} {base : Heap} {f : Addr} {fd : FuncData} (F : FunD K "is_add" "is_add" (defArgs s_is_add) (defBody s_is_add) (defScope s_is_add) [] [] f fd) (hmg : mg "is_add" = some (.ref f)) (b_isinstance : mg "isinstance" = none) (b_tuple : mg "tuple" = none) (b_len : mg "len" = none) (c_FACTORS : ∃ u, mg "FACTORS" = some u ∧ RelV (.int  3) u) (F_is_number : Dfn P w K mg base 2 "is_number" 2 m_is_number) (F_is_factor : Dfn P w K mg base 3 "is_factor" 4 m_is_factor) : Dfn P w K mg base 4 "is_add" 4 m_is_add :=
  dfn_of F hmg (FunD.bindsN F fun _ _ _ _ _ _ us hl => match us, hl with | [_, _, _, _], _ => rfl) (w_is_add F b_isinstance b_tuple b_len c_FACTORS F_is_number F_is_factor)

abbrev N_is_look : List Str := ["step", "modulus", "cells", "_", "target", "sign", "table", "a", "b", "cell"]
abbrev P_is_look : List Str := ["step", "modulus", "cells"]
theorem sc_is_look : FnScope N_is_look P_is_look (defScope s_is_look) := ⟨rfl, rfl, rfl, by decide +kernel, rfl, by decide +kernel, by decide +kernel⟩
noncomputable def g_is_look : SF := (sSeq (sAsgT [3, 4, 5, 6, 7, 8] (eVar 0))
 (sSeq (sFor (seqI (eTup (aCons (eVar 4) (aCons (eVar 7) (aCons (eVar 8) aNil))))) (.nm 9) (sIf (tNot (tTru (eCall m_is_number (aCons (eVar 9) (aCons (eVar 2) aNil))))) (sRet (eC (.bl false))) sNil))
 (sSeq (sIf (tOr (tVal (eOp eqG (eVar 4) (eVar 7))) (tOr (tVal (eOp eqG (eVar 4) (eVar 8))) (tOr (tVal (eOp eqG (eVar 7) (eVar 8))) (tNot (tTru (eCall m_is_integer (aCons (eVar 5) aNil))))))) (sRet (eC (.bl false))) sNil)
 (sSeq (sIf (tAnd (tVal (eOp neG (eVar 5) (eC (.int 1)))) (tVal (eOp neG (eVar 5) (eOp subG (eVar 1) (eC (.int 1)))))) (sRet (eC (.bl false))) sNil)
 (sRet (eCall m_is_table (aCons (eVar 6) (aCons (eVar 1) aNil))))))))
noncomputable def m_is_look : List D → Hd → Option (Rs D) := mir N_is_look.length P_is_look.length g_is_look
theorem w_is_look {P : Program} {w : World} {K : PySem.W.Frag} {mg : Str → Option Value} {base : Heap} {f : Addr} {fd : FuncData} (F : FunD K "is_look" "is_look" (defArgs s_is_look) (defBody s_is_look) (defScope s_is_look) [] [] f fd) (F_is_number : Dfn P w K mg base 2 "is_number" 2 m_is_number) (F_is_integer : Dfn P w K mg base 1 "is_integer" 1 m_is_integer) (F_is_table : Dfn P w K mg base 3 "is_table" 2 m_is_table) : FnOk P w K mg base (L2.CX P w) 4 f fd P_is_look (spD K mg 3 m_is_look) := by
  refine fn_mk (k := 3) (g := g_is_look) F sc_is_look fun cdv A outer s H E hr => ?_
  have nd := sc_is_look.nd
  have tk : Takes (cxOf (L2.CX P w) P w K mg base N_is_look "is_look" (defScope s_is_look) f cdv A outer s H E) (fun cls d _ H => E cls d H) := takes_of rfl rfl rfl rfl
  have po : PassesOwn (model P w) (cxOf (L2.CX P w) P w K mg base N_is_look "is_look" (defScope s_is_look) f cdv A outer s H E).A (cxOf (L2.CX P w) P w K mg base N_is_look "is_look" (defScope s_is_look) f cdv A outer s H E).env (cxOf (L2.CX P w) P w K mg base N_is_look "is_look" (defScope s_is_look) f cdv A outer s H E).xe := passes_of rfl
  exact (dss_cons (ds_asgT (de_var 0) (dg_tp rfl (dgs_cons 3 nd (dgs_cons 4 nd (dgs_cons 5 nd (dgs_cons 6 nd (dgs_cons 7 nd (dgs_cons 8 nd dgs_nil))))))))
 (dss_cons (ds_for po rfl (di_seq (de_tup (da_cons (de_var 4) (da_cons (de_var 7) (da_cons (de_var 8) da_nil))))) (dg_nm 9 nd) (dss_one (ds_if (dt_not (dt_tru (de_call (F_is_number.mono (by decide)) tk hr (da_cons (de_var 9) (da_cons (de_var 2) da_nil))))) (dss_one (ds_ret de_bl)) dss_nil)))
 (dss_cons (ds_if (dt_w (dw_or (dt_cmp (op_eqP hr.units) od_eq (de_var 4) (de_var 7)) (dw_or (dt_cmp (op_eqP hr.units) od_eq (de_var 4) (de_var 8)) (dw_or (dt_cmp (op_eqP hr.units) od_eq (de_var 7) (de_var 8)) (dw_or1 (dt_not (dt_tru (de_call (F_is_integer.mono (by decide)) tk hr (da_cons (de_var 5) da_nil))))))))) (dss_one (ds_ret de_bl)) dss_nil)
 (dss_cons (ds_if (dt_w (dw_and (dt_cmp (op_neP hr.units) od_ne (de_var 5) de_int) (dw_and1 (dt_cmp (op_neP hr.units) od_ne (de_var 5) (de_op op_sub od_sub (de_var 1) de_int))))) (dss_one (ds_ret de_bl)) dss_nil)
 (dss_one (ds_ret (de_call (F_is_table.mono (by decide)) tk hr (da_cons (de_var 6) (da_cons (de_var 1) da_nil)))))))))
theorem d_is_look {P : Program} {w : World} {K : PySem.W.Frag} {mg : Str → Option Value} {base : Heap} {f : Addr} {fd : FuncData} (F : FunD K "is_look" "is_look" (defArgs s_is_look) (defBody s_is_look) (defScope s_is_look) [] [] f fd) (hmg : mg "is_look" = some (.ref f)) (F_is_number : Dfn P w K mg base 2 "is_number" 2 m_is_number) (F_is_integer : Dfn P w K mg base 1 "is_integer" 1 m_is_integer) (F_is_table : Dfn P w K mg base 3 "is_table" 2 m_is_table) : Dfn P w K mg base 4 "is_look" 3 m_is_look :=
  dfn_of F hmg (FunD.bindsN F fun _ _ _ _ _ _ us hl => match us, hl with | [_, _, _], _ => rfl) (w_is_look F F_is_number F_is_integer F_is_table)

abbrev N_inverse_of : List Str := ["n", "modulus", "rest", "other", "mine", "yours", "times"]
abbrev P_inverse_of : List Str := ["n", "modulus"]
theorem sc_inverse_of : FnScope N_inverse_of P_inverse_of (defScope s_inverse_of) := ⟨rfl, rfl, rfl, by decide +kernel, rfl, by decide +kernel, by decide +kernel⟩
noncomputable def g_inverse_of : SF := (sSeq (sPar 2 3 (eOp modG (eVar 0) (eVar 1)) (eVar 1))
 (sSeq (sAsgT [4, 5] (eTup (aCons (eC (.int 1)) (aCons (eC (.int 0)) aNil))))
 (sSeq (sWhile (tVal (eOp gtG (eVar 3) (eC (.int 0)))) (sSeq (sAsg 6 (eOp divG (eVar 2) (eVar 3)))
 (sSeq (sPar 2 3 (eVar 3) (eOp subG (eVar 2) (eOp mulG (eVar 6) (eVar 3))))
 (sPar 4 5 (eVar 5) (eOp subG (eVar 4) (eOp mulG (eVar 6) (eVar 5)))))))
 (sSeq (sIf (tVal (eOp neG (eVar 2) (eC (.int 1)))) (sRet (eC .non)) sNil)
 (sRet (eOp modG (eVar 4) (eVar 1)))))))
noncomputable def m_inverse_of : List D → Hd → Option (Rs D) := mir N_inverse_of.length P_inverse_of.length g_inverse_of
theorem w_inverse_of {P : Program} {w : World} {K : PySem.W.Frag} {mg : Str → Option Value} {base : Heap} {f : Addr} {fd : FuncData} (F : FunD K "inverse_of" "inverse_of" (defArgs s_inverse_of) (defBody s_inverse_of) (defScope s_inverse_of) [] [] f fd) : FnOk P w K mg base (L2.CX P w) 1 f fd P_inverse_of (spD K mg 2 m_inverse_of) := by
  refine fn_mk (k := 0) (g := g_inverse_of) F sc_inverse_of fun cdv A outer s H E hr => ?_
  have nd := sc_inverse_of.nd
  have tk : Takes (cxOf (L2.CX P w) P w K mg base N_inverse_of "inverse_of" (defScope s_inverse_of) f cdv A outer s H E) (fun cls d _ H => E cls d H) := takes_of rfl rfl rfl rfl
  have po : PassesOwn (model P w) (cxOf (L2.CX P w) P w K mg base N_inverse_of "inverse_of" (defScope s_inverse_of) f cdv A outer s H E).A (cxOf (L2.CX P w) P w K mg base N_inverse_of "inverse_of" (defScope s_inverse_of) f cdv A outer s H E).env (cxOf (L2.CX P w) P w K mg base N_inverse_of "inverse_of" (defScope s_inverse_of) f cdv A outer s H E).xe := passes_of rfl
  exact (dss_cons (ds_par 2 3 rfl nd (de_op op_mod od_mod (de_var 0) (de_var 1)) (de_var 1))
 (dss_cons (ds_asgT (de_tup (da_cons de_int (da_cons de_int da_nil))) (dg_tp rfl (dgs_cons 4 nd (dgs_cons 5 nd dgs_nil))))
 (dss_cons (ds_while (hp := po) (dt_cmp op_gt od_gt (de_var 3) de_int) (dss_cons (ds_set 6 nd (de_op op_fdivW od_div (de_var 2) (de_var 3)))
 (dss_cons (ds_par 2 3 rfl nd (de_var 3) (de_op op_sub od_sub (de_var 2) (de_op op_mulD od_mul (de_var 6) (de_var 3))))
 (dss_one (ds_par 4 5 rfl nd (de_var 5) (de_op op_sub od_sub (de_var 4) (de_op op_mulD od_mul (de_var 6) (de_var 5))))))))
 (dss_cons (ds_if (dt_cmp (op_neP hr.units) od_ne (de_var 2) de_int) (dss_one (ds_ret de_non)) dss_nil)
 (dss_one (ds_ret (de_op op_mod od_mod (de_var 4) (de_var 1))))))))
theorem d_inverse_of {P : Program} {w : World} {K : PySem.W.Frag} {mg : Str → Option Value} {base : Heap} {f : Addr} {fd : FuncData} (F : FunD K "inverse_of" "inverse_of" (defArgs s_inverse_of) (defBody s_inverse_of) (defScope s_inverse_of) [] [] f fd) (hmg : mg "inverse_of" = some (.ref f)) : Dfn P w K mg base 1 "inverse_of" 2 m_inverse_of :=
  dfn_of F hmg (FunD.bindsN F fun _ _ _ _ _ _ us hl => match us, hl with | [_, _], _ => rfl) (w_inverse_of F)

abbrev N_is_step : List Str := ["step", "modulus", "cells", "inputs"]
abbrev P_is_step : List Str := ["step", "modulus", "cells", "inputs"]
theorem sc_is_step : FnScope N_is_step P_is_step (defScope s_is_step) := ⟨rfl, rfl, rfl, by decide +kernel, rfl, by decide +kernel, by decide +kernel⟩
noncomputable def g_is_step : SF := (sSeq (sIf (tOr (tNot (tTru (eUn (isiG .tup) (eVar 0)))) (tVal (eOp ltG (eUn lenD (eVar 0)) (eC (.int 3))))) (sRet (eC (.bl false))) sNil)
 (sSeq (sIf (tAnd (tVal (eOp eqG (eOp ixG (eVar 0) (eC (.int 0))) (eC (.str "add")))) (tVal (eOp eqG (eUn lenD (eVar 0)) (eC (.int 4))))) (sRet (eCall m_is_add (aCons (eVar 0) (aCons (eVar 1) (aCons (eVar 2) (aCons (eVar 3) aNil)))))) sNil)
 (sSeq (sIf (tAnd (tVal (eOp eqG (eOp ixG (eVar 0) (eC (.int 0))) (eC (.str "scale")))) (tVal (eOp eqG (eUn lenD (eVar 0)) (eC (.int 3))))) (sSeq (sIf (tOr (tNot (tTru (eCall m_is_number (aCons (eOp ixG (eVar 0) (eC (.int 1))) (aCons (eVar 2) aNil))))) (tNot (tTru (eCall m_is_number (aCons (eOp ixG (eVar 0) (eC (.int 2))) (aCons (eVar 1) aNil)))))) (sRet (eC (.bl false))) sNil)
 (sRet (isNN (eCall m_inverse_of (aCons (eOp ixG (eVar 0) (eC (.int 2))) (aCons (eVar 1) aNil)))))) sNil)
 (sSeq (sIf (tAnd (tVal (eOp eqG (eOp ixG (eVar 0) (eC (.int 0))) (eC (.str "swap")))) (tVal (eOp eqG (eUn lenD (eVar 0)) (eC (.int 3))))) (sSeq (sIf (tOr (tNot (tTru (eCall m_is_number (aCons (eOp ixG (eVar 0) (eC (.int 1))) (aCons (eVar 2) aNil))))) (tNot (tTru (eCall m_is_number (aCons (eOp ixG (eVar 0) (eC (.int 2))) (aCons (eVar 2) aNil)))))) (sRet (eC (.bl false))) sNil)
 (sRet (eOp neG (eOp ixG (eVar 0) (eC (.int 1))) (eOp ixG (eVar 0) (eC (.int 2)))))) sNil)
 (sRet (eAnd (eOp eqG (eOp ixG (eVar 0) (eC (.int 0))) (eC (.str "table"))) (eAnd (eOp eqG (eUn lenD (eVar 0)) (eC (.int 6))) (eCall m_is_look (aCons (eVar 0) (aCons (eVar 1) (aCons (eVar 2) aNil)))))))))))
noncomputable def m_is_step : List D → Hd → Option (Rs D) := mir N_is_step.length P_is_step.length g_is_step
theorem w_is_step {P : Program} {w : World} {K : PySem.W.Frag} {mg : Str → Option Value} {base : Heap} {f : Addr} {fd : FuncData} (F : FunD K "is_step" "is_step" (defArgs s_is_step) (defBody s_is_step) (defScope s_is_step) [] [] f fd) (b_isinstance : mg "isinstance" = none) (b_tuple : mg "tuple" = none) (b_len : mg "len" = none) (F_is_add : Dfn P w K mg base 4 "is_add" 4 m_is_add) (F_is_number : Dfn P w K mg base 2 "is_number" 2 m_is_number) (F_inverse_of : Dfn P w K mg base 1 "inverse_of" 2 m_inverse_of) (F_is_look : Dfn P w K mg base 4 "is_look" 3 m_is_look) : FnOk P w K mg base (L2.CX P w) 5 f fd P_is_step (spD K mg 4 m_is_step) := by
  refine fn_mk (k := 4) (g := g_is_step) F sc_is_step fun cdv A outer s H E hr => ?_
  have nd := sc_is_step.nd
  have tk : Takes (cxOf (L2.CX P w) P w K mg base N_is_step "is_step" (defScope s_is_step) f cdv A outer s H E) (fun cls d _ H => E cls d H) := takes_of rfl rfl rfl rfl
  have po : PassesOwn (model P w) (cxOf (L2.CX P w) P w K mg base N_is_step "is_step" (defScope s_is_step) f cdv A outer s H E).A (cxOf (L2.CX P w) P w K mg base N_is_step "is_step" (defScope s_is_step) f cdv A outer s H E).env (cxOf (L2.CX P w) P w K mg base N_is_step "is_step" (defScope s_is_step) f cdv A outer s H E).xe := passes_of rfl
  exact (dss_cons (ds_if (dt_w (dw_or (dt_not (dt_tru (de_isi .tup (de_var 0) b_isinstance b_tuple PyProof.Rows.boot_tuple))) (dw_or1 (dt_cmp op_lt od_lt (de_len (de_var 0) b_len) de_int)))) (dss_one (ds_ret de_bl)) dss_nil)
 (dss_cons (ds_if (dt_w (dw_and (dt_cmp (op_eqP hr.units) od_eq (de_ix (de_var 0) de_int) de_str) (dw_and1 (dt_cmp (op_eqP hr.units) od_eq (de_len (de_var 0) b_len) de_int)))) (dss_one (ds_ret (de_call (F_is_add.mono (by decide)) tk hr (da_cons (de_var 0) (da_cons (de_var 1) (da_cons (de_var 2) (da_cons (de_var 3) da_nil))))))) dss_nil)
 (dss_cons (ds_if (dt_w (dw_and (dt_cmp (op_eqP hr.units) od_eq (de_ix (de_var 0) de_int) de_str) (dw_and1 (dt_cmp (op_eqP hr.units) od_eq (de_len (de_var 0) b_len) de_int)))) (dss_cons (ds_if (dt_w (dw_or (dt_not (dt_tru (de_call (F_is_number.mono (by decide)) tk hr (da_cons (de_ix (de_var 0) de_int) (da_cons (de_var 2) da_nil))))) (dw_or1 (dt_not (dt_tru (de_call (F_is_number.mono (by decide)) tk hr (da_cons (de_ix (de_var 0) de_int) (da_cons (de_var 1) da_nil)))))))) (dss_one (ds_ret de_bl)) dss_nil)
 (dss_one (ds_ret (de_isNN (de_call (F_inverse_of.mono (by decide)) tk hr (da_cons (de_ix (de_var 0) de_int) (da_cons (de_var 1) da_nil))))))) dss_nil)
 (dss_cons (ds_if (dt_w (dw_and (dt_cmp (op_eqP hr.units) od_eq (de_ix (de_var 0) de_int) de_str) (dw_and1 (dt_cmp (op_eqP hr.units) od_eq (de_len (de_var 0) b_len) de_int)))) (dss_cons (ds_if (dt_w (dw_or (dt_not (dt_tru (de_call (F_is_number.mono (by decide)) tk hr (da_cons (de_ix (de_var 0) de_int) (da_cons (de_var 2) da_nil))))) (dw_or1 (dt_not (dt_tru (de_call (F_is_number.mono (by decide)) tk hr (da_cons (de_ix (de_var 0) de_int) (da_cons (de_var 2) da_nil)))))))) (dss_one (ds_ret de_bl)) dss_nil)
 (dss_one (ds_ret (de_cmp (op_neP hr.units) od_ne (de_ix (de_var 0) de_int) (de_ix (de_var 0) de_int))))) dss_nil)
 (dss_one (ds_ret (de_and (de_cmp (op_eqP hr.units) od_eq (de_ix (de_var 0) de_int) de_str) (de_and (de_cmp (op_eqP hr.units) od_eq (de_len (de_var 0) b_len) de_int) (de_andE (de_call (F_is_look.mono (by decide)) tk hr (da_cons (de_var 0) (da_cons (de_var 1) (da_cons (de_var 2) da_nil)))))))))))))
theorem d_is_step {P : Program} {w : World} {K : PySem.W.Frag} {mg : Str → Option Value} {base : Heap} {f : Addr} {fd : FuncData} (F : FunD K "is_step" "is_step" (defArgs s_is_step) (defBody s_is_step) (defScope s_is_step) [] [] f fd) (hmg : mg "is_step" = some (.ref f)) (b_isinstance : mg "isinstance" = none) (b_tuple : mg "tuple" = none) (b_len : mg "len" = none) (F_is_add : Dfn P w K mg base 4 "is_add" 4 m_is_add) (F_is_number : Dfn P w K mg base 2 "is_number" 2 m_is_number) (F_inverse_of : Dfn P w K mg base 1 "inverse_of" 2 m_inverse_of) (F_is_look : Dfn P w K mg base 4 "is_look" 3 m_is_look) : Dfn P w K mg base 5 "is_step" 4 m_is_step :=
  dfn_of F hmg (FunD.bindsN F fun _ _ _ _ _ _ us hl => match us, hl with | [_, _, _, _], _ => rfl) (w_is_step F b_isinstance b_tuple b_len F_is_add F_is_number F_inverse_of F_is_look)

abbrev N_check_steps : List Str := ["steps", "modulus", "cells", "inputs", "most", "looks", "step"]
abbrev P_check_steps : List Str := ["steps", "modulus", "cells", "inputs", "most"]
theorem sc_check_steps : FnScope N_check_steps P_check_steps (defScope s_check_steps) := ⟨rfl, rfl, rfl, by decide +kernel, rfl, by decide +kernel, by decide +kernel⟩
noncomputable def g_check_steps : SF := (sSeq (sIf (tOr (tNot (tTru (eUn (isiG .lst) (eVar 0)))) (tVal (eOp gtG (eUn lenD (eVar 0)) (eVar 4)))) (sRaise "BadStep") sNil)
 (sSeq (sAsg 5 (eC (.bl false)))
 (sSeq (sFor (seqI (eVar 0)) (.nm 6) (sSeq (sIf (tNot (tTru (eCall m_is_step (aCons (eVar 6) (aCons (eVar 1) (aCons (eVar 2) (aCons (eVar 3) aNil))))))) (sRaise "BadStep") sNil)
 (sAsg 5 (eOr (eVar 5) (eOp eqG (eOp ixG (eVar 6) (eC (.int 0))) (eC (.str "table")))))))
 (sIf (tAnd (tTru (eVar 5)) (tNot (tTru (eCall m_is_prime (aCons (eVar 1) aNil))))) (sRaise "BadStep") sNil))))
noncomputable def m_check_steps : List D → Hd → Option (Rs D) := mir N_check_steps.length P_check_steps.length g_check_steps
theorem w_check_steps {P : Program} {w : World} {K : PySem.W.Frag} {mg : Str → Option Value} {base : Heap} {f : Addr} {fd : FuncData} (F : FunD K "check_steps" "check_steps" (defArgs s_check_steps) (defBody s_check_steps) (defScope s_check_steps) [] [] f fd) (b_isinstance : mg "isinstance" = none) (b_list : mg "list" = none) (b_len : mg "len" = none) (F_is_step : Dfn P w K mg base 5 "is_step" 4 m_is_step) (F_is_prime : Dfn P w K mg base 1 "is_prime" 1 m_is_prime) (x_BadStep : XCl K mg "BadStep") : FnOk P w K mg base (L2.CX P w) 6 f fd P_check_steps (spD K mg 5 m_check_steps) := by
  refine fn_mk (k := 5) (g := g_check_steps) F sc_check_steps fun cdv A outer s H E hr => ?_
  have nd := sc_check_steps.nd
  have tk : Takes (cxOf (L2.CX P w) P w K mg base N_check_steps "check_steps" (defScope s_check_steps) f cdv A outer s H E) (fun cls d _ H => E cls d H) := takes_of rfl rfl rfl rfl
  have po : PassesOwn (model P w) (cxOf (L2.CX P w) P w K mg base N_check_steps "check_steps" (defScope s_check_steps) f cdv A outer s H E).A (cxOf (L2.CX P w) P w K mg base N_check_steps "check_steps" (defScope s_check_steps) f cdv A outer s H E).env (cxOf (L2.CX P w) P w K mg base N_check_steps "check_steps" (defScope s_check_steps) f cdv A outer s H E).xe := passes_of rfl
  exact (dss_cons (ds_if (dt_w (dw_or (dt_not (dt_tru (de_isi .lst (de_var 0) b_isinstance b_list PyProof.Rows.boot_list))) (dw_or1 (dt_cmp op_gt od_gt (de_len (de_var 0) b_len) (de_var 4))))) (dss_one (ds_raise rfl tk x_BadStep)) dss_nil)
 (dss_cons (ds_set 5 nd de_bl)
 (dss_cons (ds_for po rfl (di_seq (de_var 0)) (dg_nm 6 nd) (dss_cons (ds_if (dt_not (dt_tru (de_call (F_is_step.mono (by decide)) tk hr (da_cons (de_var 6) (da_cons (de_var 1) (da_cons (de_var 2) (da_cons (de_var 3) da_nil))))))) (dss_one (ds_raise rfl tk x_BadStep)) dss_nil)
 (dss_one (ds_set 5 nd (de_or (de_var 5) (de_orE (de_cmp (op_eqP hr.units) od_eq (de_ix (de_var 6) de_int) de_str)))))))
 (dss_one (ds_if (dt_w (dw_and (dt_tru (de_var 5)) (dw_and1 (dt_not (dt_tru (de_call (F_is_prime.mono (by decide)) tk hr (da_cons (de_var 1) da_nil))))))) (dss_one (ds_raise rfl tk x_BadStep)) dss_nil)))))
theorem d_check_steps {P : Program} {w : World} {K : PySem.W.Frag} {mg : Str → Option Value} {base : Heap} {f : Addr} {fd : FuncData} (F : FunD K "check_steps" "check_steps" (defArgs s_check_steps) (defBody s_check_steps) (defScope s_check_steps) [] [] f fd) (hmg : mg "check_steps" = some (.ref f)) (b_isinstance : mg "isinstance" = none) (b_list : mg "list" = none) (b_len : mg "len" = none) (F_is_step : Dfn P w K mg base 5 "is_step" 4 m_is_step) (F_is_prime : Dfn P w K mg base 1 "is_prime" 1 m_is_prime) (x_BadStep : XCl K mg "BadStep") : Dfn P w K mg base 6 "check_steps" 5 m_check_steps :=
  dfn_of F hmg (FunD.bindsN F fun _ _ _ _ _ _ us hl => match us, hl with | [_, _, _, _, _], _ => rfl) (w_check_steps F b_isinstance b_list b_len F_is_step F_is_prime x_BadStep)

abbrev N_Program___init__ : List Str := ["self", "modulus", "cells", "inputs", "steps"]
abbrev P_Program___init__ : List Str := ["self", "modulus", "cells", "inputs", "steps"]
theorem sc_Program___init__ : FnScope N_Program___init__ P_Program___init__ (defScope s_Program___init__) := ⟨rfl, rfl, rfl, by decide +kernel, rfl, by decide +kernel, by decide +kernel⟩
noncomputable def g_Program___init__ : SF := (sSeq (sIf (tOr (tNot (tTru (eCall m_is_integer (aCons (eVar 1) aNil)))) (tNot (tVal (eChain leG leG (eC (.int 2)) (eVar 1) (eC (.int 1000000000)))))) (sRaise "BadStep") sNil)
 (sSeq (sIf (tOr (tNot (tTru (eCall m_is_integer (aCons (eVar 2) aNil)))) (tNot (tVal (eChain leG leG (eC (.int 1)) (eVar 2) (eC (.int 60)))))) (sRaise "BadStep") sNil)
 (sSeq (sIf (tOr (tNot (tTru (eCall m_is_integer (aCons (eVar 3) aNil)))) (tNot (tVal (eChain leG leG (eC (.int 0)) (eVar 3) (eC (.int 60)))))) (sRaise "BadStep") sNil)
 (sSeq (sDrop (eCall m_check_steps (aCons (eVar 4) (aCons (eVar 1) (aCons (eVar 2) (aCons (eVar 3) (aCons (eC (.int 20000)) aNil)))))))
 (sSeq (sFld "Program" "modulus" (eVar 0) (eVar 1))
 (sSeq (sFld "Program" "cells" (eVar 0) (eVar 2))
 (sSeq (sFld "Program" "inputs" (eVar 0) (eVar 3))
 (sFld "Program" "steps" (eVar 0) (eUn listG (eVar 4))))))))))
noncomputable def m_Program___init__ : List D → Hd → Option (Rs D) := mir N_Program___init__.length P_Program___init__.length g_Program___init__
theorem w_Program___init__ {P : Program} {w : World} {K : PySem.W.Frag} {mg : Str → Option Value} {base : Heap} {f : Addr} {fd : FuncData} (F : FunD K "__init__" "Program.__init__" (defArgs s_Program___init__) (defBody s_Program___init__) (defScope s_Program___init__) [] [] f fd) (b_list : mg "list" = none) (c_MODULUS : ∃ u, mg "MODULUS" = some u ∧ RelV (.int  1000000000) u) (c_CELLS : ∃ u, mg "CELLS" = some u ∧ RelV (.int  60) u) (c_INPUTS : ∃ u, mg "INPUTS" = some u ∧ RelV (.int  60) u) (c_STEPS : ∃ u, mg "STEPS" = some u ∧ RelV (.int  20000) u) (F_is_integer : Dfn P w K mg base 1 "is_integer" 1 m_is_integer) (F_check_steps : Dfn P w K mg base 6 "check_steps" 5 m_check_steps) (x_BadStep : XCl K mg "BadStep") (cf_Program : ClsK K mg "Program" ["modulus", "cells", "inputs", "steps"]) : FnOk P w K mg base (L2.CX P w) 7 f fd P_Program___init__ (spD K mg 5 m_Program___init__) := by
  refine fn_mk (k := 6) (g := g_Program___init__) F sc_Program___init__ fun cdv A outer s H E hr => ?_
  have nd := sc_Program___init__.nd
  have tk : Takes (cxOf (L2.CX P w) P w K mg base N_Program___init__ "Program.__init__" (defScope s_Program___init__) f cdv A outer s H E) (fun cls d _ H => E cls d H) := takes_of rfl rfl rfl rfl
  have po : PassesOwn (model P w) (cxOf (L2.CX P w) P w K mg base N_Program___init__ "Program.__init__" (defScope s_Program___init__) f cdv A outer s H E).A (cxOf (L2.CX P w) P w K mg base N_Program___init__ "Program.__init__" (defScope s_Program___init__) f cdv A outer s H E).env (cxOf (L2.CX P w) P w K mg base N_Program___init__ "Program.__init__" (defScope s_Program___init__) f cdv A outer s H E).xe := passes_of rfl
  exact (dss_cons (ds_if (dt_w (dw_or (dt_not (dt_tru (de_call (F_is_integer.mono (by decide)) tk hr (da_cons (de_var 1) da_nil)))) (dw_or1 (dt_not (dt_chain op_le od_le op_le od_le de_int (de_var 1) (de_gi c_MODULUS)))))) (dss_one (ds_raise rfl tk x_BadStep)) dss_nil)
 (dss_cons (ds_if (dt_w (dw_or (dt_not (dt_tru (de_call (F_is_integer.mono (by decide)) tk hr (da_cons (de_var 2) da_nil)))) (dw_or1 (dt_not (dt_chain op_le od_le op_le od_le de_int (de_var 2) (de_gi c_CELLS)))))) (dss_one (ds_raise rfl tk x_BadStep)) dss_nil)
 (dss_cons (ds_if (dt_w (dw_or (dt_not (dt_tru (de_call (F_is_integer.mono (by decide)) tk hr (da_cons (de_var 3) da_nil)))) (dw_or1 (dt_not (dt_chain op_le od_le op_le od_le de_int (de_var 3) (de_gi c_INPUTS)))))) (dss_one (ds_raise rfl tk x_BadStep)) dss_nil)
 (dss_cons (ds_drop (de_call (F_check_steps.mono (by decide)) tk hr (da_cons (de_var 4) (da_cons (de_var 1) (da_cons (de_var 2) (da_cons (de_var 3) (da_cons (de_gi c_STEPS) da_nil)))))))
 (dss_cons (ds_fld cf_Program (List.Mem.head _) (de_var 0) (de_var 1))
 (dss_cons (ds_fld cf_Program (List.Mem.tail _ (List.Mem.head _)) (de_var 0) (de_var 2))
 (dss_cons (ds_fld cf_Program (List.Mem.tail _ (List.Mem.tail _ (List.Mem.head _))) (de_var 0) (de_var 3))
 (dss_one (ds_fld cf_Program (List.Mem.tail _ (List.Mem.tail _ (List.Mem.tail _ (List.Mem.head _)))) (de_var 0) (de_list (de_var 4) b_list))))))))))
theorem d_Program___init__ {P : Program} {w : World} {K : PySem.W.Frag} {mg : Str → Option Value} {base : Heap} {f : Addr} {fd : FuncData} (F : FunD K "__init__" "Program.__init__" (defArgs s_Program___init__) (defBody s_Program___init__) (defScope s_Program___init__) [] [] f fd) {C : Addr} (hC : mg "Program" = some (.ref C)) (hm : Mk K C f) (b_list : mg "list" = none) (c_MODULUS : ∃ u, mg "MODULUS" = some u ∧ RelV (.int  1000000000) u) (c_CELLS : ∃ u, mg "CELLS" = some u ∧ RelV (.int  60) u) (c_INPUTS : ∃ u, mg "INPUTS" = some u ∧ RelV (.int  60) u) (c_STEPS : ∃ u, mg "STEPS" = some u ∧ RelV (.int  20000) u) (F_is_integer : Dfn P w K mg base 1 "is_integer" 1 m_is_integer) (F_check_steps : Dfn P w K mg base 6 "check_steps" 5 m_check_steps) (x_BadStep : XCl K mg "BadStep") (cf_Program : ClsK K mg "Program" ["modulus", "cells", "inputs", "steps"]) : MkI P w K mg base 7 "Program" 5 m_Program___init__ :=
  ⟨fun ds M o e => mir_len e, C, f, fd, P_Program___init__, hC, hm, (FunD.bindsN F fun _ _ _ _ _ _ us hl => match us, hl with | [_, _, _, _, _], _ => rfl), (w_Program___init__ F b_list c_MODULUS c_CELLS c_INPUTS c_STEPS F_is_integer F_check_steps x_BadStep cf_Program)⟩

abbrev N_round_tasks : List Str := ["row", "task", "unit", "prime", "node", "left", "right", "_", "target", "sign", "a", "b", "back", "look", "cell"]
abbrev P_round_tasks : List Str := ["row", "task", "unit", "prime"]
theorem sc_round_tasks : FnScope N_round_tasks P_round_tasks (defScope s_round_tasks) := ⟨rfl, rfl, rfl, by decide +kernel, rfl, by decide +kernel, by decide +kernel⟩
noncomputable def g_round_tasks : SF := (sSeq (sAsgT [4, 5, 6] (eVar 0))
 (sSeq (sAsgT [7, 8, 9] (eVar 1))
 (sSeq (sAsgL [10, 11] (eLc (rng1 (eC (.int 3))) (.nm 14) (tVal (eOp neG (eVar 14) (eVar 8))) (eVar 14) [14]))
 (sSeq (sAsg 12 (eCall m_inverse_of (aCons (eVar 2) (aCons (eVar 3) aNil))))
 (sSeq (sAsg 13 (eTup (aCons (eC (.str "table")) (aCons (eVar 8) (aCons (eIf (tVal (eOp ltG (eVar 9) (eC (.int 0)))) (eC (.int 1)) (eOp subG (eVar 3) (eC (.int 1)))) (aCons (eOp ixG (eVar 4) (eC (.int 1))) (aCons (eVar 10) (aCons (eVar 11) aNil))))))))
 (sRet (eLst (aCons (eTup (aCons (eC (.str "scale")) (aCons (eVar 10) (aCons (eVar 2) aNil)))) (aCons (eTup (aCons (eC (.str "scale")) (aCons (eVar 11) (aCons (eVar 2) aNil)))) (aCons (eTup (aCons (eVar 5) (aCons (eVar 10) (aCons (eC (.int 1)) aNil)))) (aCons (eTup (aCons (eVar 6) (aCons (eVar 11) (aCons (eC (.int 1)) aNil)))) (aCons (eVar 13) (aCons (eTup (aCons (eVar 5) (aCons (eVar 10) (aCons (eUn negG (eC (.int 1))) aNil)))) (aCons (eTup (aCons (eVar 6) (aCons (eVar 11) (aCons (eUn negG (eC (.int 1))) aNil)))) (aCons (eTup (aCons (eC (.str "scale")) (aCons (eVar 10) (aCons (eVar 12) aNil)))) (aCons (eTup (aCons (eC (.str "scale")) (aCons (eVar 11) (aCons (eVar 12) aNil)))) aNil))))))))))))))))
noncomputable def m_round_tasks : List D → Hd → Option (Rs D) := mir N_round_tasks.length P_round_tasks.length g_round_tasks
theorem w_round_tasks {P : Program} {w : World} {K : PySem.W.Frag} {mg : Str → Option Value} {base : Heap} {f : Addr} {fd : FuncData} (F : FunD K "round_tasks" "round_tasks" (defArgs s_round_tasks) (defBody s_round_tasks) (defScope s_round_tasks) [] [] f fd) (b_range : mg "range" = none) (F_inverse_of : Dfn P w K mg base 1 "inverse_of" 2 m_inverse_of) : FnOk P w K mg base (L2.CX P w) 2 f fd P_round_tasks (spD K mg 4 m_round_tasks) := by
  refine fn_mk (k := 1) (g := g_round_tasks) F sc_round_tasks fun cdv A outer s H E hr => ?_
  have nd := sc_round_tasks.nd
  have tk : Takes (cxOf (L2.CX P w) P w K mg base N_round_tasks "round_tasks" (defScope s_round_tasks) f cdv A outer s H E) (fun cls d _ H => E cls d H) := takes_of rfl rfl rfl rfl
  have po : PassesOwn (model P w) (cxOf (L2.CX P w) P w K mg base N_round_tasks "round_tasks" (defScope s_round_tasks) f cdv A outer s H E).A (cxOf (L2.CX P w) P w K mg base N_round_tasks "round_tasks" (defScope s_round_tasks) f cdv A outer s H E).env (cxOf (L2.CX P w) P w K mg base N_round_tasks "round_tasks" (defScope s_round_tasks) f cdv A outer s H E).xe := passes_of rfl
  exact (dss_cons (ds_asgT (de_var 0) (dg_tp rfl (dgs_cons 4 nd (dgs_cons 5 nd (dgs_cons 6 nd dgs_nil)))))
 (dss_cons (ds_asgT (de_var 1) (dg_tp rfl (dgs_cons 7 nd (dgs_cons 8 nd (dgs_cons 9 nd dgs_nil)))))
 (dss_cons (ds_asgL (de_lc (own := [("cell", 14)]) rfl nd (di_rng1 de_int b_range) (blkOk_by (own := [("cell", 14)]) (N := N_round_tasks) (sc := defScope s_round_tasks) (by decide +kernel)) (by decide) (fun _ _ _ _ _ => (dg_nm 14 nd)) (fun _ _ _ _ _ => (dts_one (dt_cmp (op_neP hr.units) od_ne (de_var 14) (de_var 8)))) (fun _ _ _ _ _ => (de_var 14))) (dg_lst rfl (dgs_cons 10 nd (dgs_cons 11 nd dgs_nil))))
 (dss_cons (ds_set 12 nd (de_call (F_inverse_of.mono (by decide)) tk hr (da_cons (de_var 2) (da_cons (de_var 3) da_nil))))
 (dss_cons (ds_set 13 nd (de_tup (da_cons de_str (da_cons (de_var 8) (da_cons (de_if (dt_cmp op_lt od_lt (de_var 9) de_int) de_int (de_op op_sub od_sub (de_var 3) de_int)) (da_cons (de_ix (de_var 4) de_int) (da_cons (de_var 10) (da_cons (de_var 11) da_nil))))))))
 (dss_one (ds_ret (de_lst (da_cons (de_tup (da_cons de_str (da_cons (de_var 10) (da_cons (de_var 2) da_nil)))) (da_cons (de_tup (da_cons de_str (da_cons (de_var 11) (da_cons (de_var 2) da_nil)))) (da_cons (de_tup (da_cons (de_var 5) (da_cons (de_var 10) (da_cons de_int da_nil)))) (da_cons (de_tup (da_cons (de_var 6) (da_cons (de_var 11) (da_cons de_int da_nil)))) (da_cons (de_var 13) (da_cons (de_tup (da_cons (de_var 5) (da_cons (de_var 10) (da_cons (de_un un_neg ou_neg de_int) da_nil)))) (da_cons (de_tup (da_cons (de_var 6) (da_cons (de_var 11) (da_cons (de_un un_neg ou_neg de_int) da_nil)))) (da_cons (de_tup (da_cons de_str (da_cons (de_var 10) (da_cons (de_var 12) da_nil)))) (da_cons (de_tup (da_cons de_str (da_cons (de_var 11) (da_cons (de_var 12) da_nil)))) da_nil)))))))))))))))))
theorem d_round_tasks {P : Program} {w : World} {K : PySem.W.Frag} {mg : Str → Option Value} {base : Heap} {f : Addr} {fd : FuncData} (F : FunD K "round_tasks" "round_tasks" (defArgs s_round_tasks) (defBody s_round_tasks) (defScope s_round_tasks) [] [] f fd) (hmg : mg "round_tasks" = some (.ref f)) (b_range : mg "range" = none) (F_inverse_of : Dfn P w K mg base 1 "inverse_of" 2 m_inverse_of) : Dfn P w K mg base 2 "round_tasks" 4 m_round_tasks :=
  dfn_of F hmg (FunD.bindsN F fun _ _ _ _ _ _ us hl => match us, hl with | [_, _, _, _], _ => rfl) (w_round_tasks F b_range F_inverse_of)

abbrev N_compile_tree : List Str := ["tree", "values", "rows", "prime", "steps", "tasks", "task", "row", "unit"]
abbrev P_compile_tree : List Str := ["tree", "values"]
theorem sc_compile_tree : FnScope N_compile_tree P_compile_tree (defScope s_compile_tree) := ⟨rfl, rfl, rfl, by decide +kernel, rfl, by decide +kernel, by decide +kernel⟩
noncomputable def g_compile_tree : SF := (sSeq (sAsg 2 (eCall m_rows_of (aCons (eVar 0) (aCons (eVar 1) aNil))))
 (sSeq (sIf (tVal (eOp gtG (eCall m_tree_cost (aCons (eVar 0) (aCons (eVar 1) aNil))) (eC (.int 20000)))) (sRaise "TooLong") sNil)
 (sSeq (sAsg 3 (eCall m_prime_of (aCons (eVar 1) aNil)))
 (sSeq (sAsg 4 (eLst aNil))
 (sSeq (sAsg 5 (eLst (aCons (eTup (aCons (eOp subG (eUn lenD (eVar 2)) (eC (.int 1))) (aCons (eC (.int 0)) (aCons (eC (.int 1)) aNil)))) aNil)))
 (sSeq (sWhile (tTru (eVar 5)) (sSeq (sAsg 6 (eLm popG (eVar 5) aNil))
 (sSeq (sIf (tNot (tTru (eCall m_is_integer (aCons (eOp ixG (eVar 6) (eC (.int 0))) aNil)))) (sSeq (sDrop (eLm appendG (eVar 4) (aCons (eVar 6) aNil)))
 sCont) sNil)
 (sSeq (sAsg 7 (eOp ixG (eVar 2) (eOp ixG (eVar 6) (eC (.int 0)))))
 (sSeq (sIf (tVal (eOp ltG (eOp ixG (eVar 7) (eC (.int 1))) (eC (.int 0)))) (sSeq (sDrop (eLm appendG (eVar 4) (aCons (eTup (aCons (eC (.str "add")) (aCons (eOp ixG (eVar 6) (eC (.int 1))) (aCons (eOp modG (eOp mulG (eOp ixG (eVar 6) (eC (.int 2))) (eOp ixG (eOp ixG (eVar 7) (eC (.int 0))) (eC (.int 1)))) (eVar 3)) (aCons (eTup aNil) aNil))))) aNil)))
 sCont) sNil)
 (sFor (rngD (eOp subG (eVar 3) (eC (.int 1))) (eC (.int 0)) (eUn negG (eC (.int 1)))) (.nm 8) (sDrop (eLm extendG (eVar 5) (aCons (eUn revG (eCall m_round_tasks (aCons (eVar 7) (aCons (eVar 6) (aCons (eVar 8) (aCons (eVar 3) aNil)))))) aNil)))))))))
 (sRet (eMake "Program" m_Program___init__ (aCons (eVar 3) (aCons (eC (.int 3)) (aCons (eC (.int 0)) (aCons (eVar 4) aNil))))))))))))
noncomputable def m_compile_tree : List D → Hd → Option (Rs D) := mir N_compile_tree.length P_compile_tree.length g_compile_tree
theorem w_compile_tree {P : Program} {w : World} {K : PySem.W.Frag} {mg : Str → Option Value} {base : Heap} {f : Addr} {fd : FuncData} (F : FunD K "compile_tree" "compile_tree" (defArgs s_compile_tree) (defBody s_compile_tree) (defScope s_compile_tree) [] [] f fd) (b_len : mg "len" = none) (b_range : mg "range" = none) (c_STEPS : ∃ u, mg "STEPS" = some u ∧ RelV (.int  20000) u) (F_rows_of : Dfn P w K mg base 6 "rows_of" 2 m_rows_of) (F_tree_cost : Dfn P w K mg base 7 "tree_cost" 2 m_tree_cost) (F_prime_of : Dfn P w K mg base 2 "prime_of" 1 m_prime_of) (F_is_integer : Dfn P w K mg base 1 "is_integer" 1 m_is_integer) (F_round_tasks : Dfn P w K mg base 2 "round_tasks" 4 m_round_tasks) (F_Program___init__ : MkI P w K mg base 7 "Program" 5 m_Program___init__) (x_TooLong : XCl K mg "TooLong") : FnOk P w K mg base (L2.CX P w) 9 f fd P_compile_tree (spD K mg 2 m_compile_tree) := by
  refine fn_mk (k := 8) (g := g_compile_tree) F sc_compile_tree fun cdv A outer s H E hr => ?_
  have nd := sc_compile_tree.nd
  have tk : Takes (cxOf (L2.CX P w) P w K mg base N_compile_tree "compile_tree" (defScope s_compile_tree) f cdv A outer s H E) (fun cls d _ H => E cls d H) := takes_of rfl rfl rfl rfl
  have po : PassesOwn (model P w) (cxOf (L2.CX P w) P w K mg base N_compile_tree "compile_tree" (defScope s_compile_tree) f cdv A outer s H E).A (cxOf (L2.CX P w) P w K mg base N_compile_tree "compile_tree" (defScope s_compile_tree) f cdv A outer s H E).env (cxOf (L2.CX P w) P w K mg base N_compile_tree "compile_tree" (defScope s_compile_tree) f cdv A outer s H E).xe := passes_of rfl
  exact (dss_cons (ds_set 2 nd (de_call (F_rows_of.mono (by decide)) tk hr (da_cons (de_var 0) (da_cons (de_var 1) da_nil))))
 (dss_cons (ds_if (dt_cmp op_gt od_gt (de_call (F_tree_cost.mono (by decide)) tk hr (da_cons (de_var 0) (da_cons (de_var 1) da_nil))) (de_gi c_STEPS)) (dss_one (ds_raise rfl tk x_TooLong)) dss_nil)
 (dss_cons (ds_set 3 nd (de_call (F_prime_of.mono (by decide)) tk hr (da_cons (de_var 1) da_nil)))
 (dss_cons (ds_set 4 nd (de_lst da_nil))
 (dss_cons (ds_set 5 nd (de_lst (da_cons (de_tup (da_cons (de_op op_sub od_sub (de_len (de_var 2) b_len) de_int) (da_cons de_int (da_cons de_int da_nil)))) da_nil)))
 (dss_cons (ds_while (hp := po) (dt_tru (de_var 5)) (dss_cons (ds_set 6 nd (de_pop (de_var 5)))
 (dss_cons (ds_if (dt_not (dt_tru (de_call (F_is_integer.mono (by decide)) tk hr (da_cons (de_ix (de_var 6) de_int) da_nil)))) (dss_cons (ds_drop (de_append (de_var 4) (da_cons (de_var 6) da_nil)))
 (dss_one ds_cont)) dss_nil)
 (dss_cons (ds_set 7 nd (de_ix (de_var 2) (de_ix (de_var 6) de_int)))
 (dss_cons (ds_if (dt_cmp op_lt od_lt (de_ix (de_var 7) de_int) de_int) (dss_cons (ds_drop (de_append (de_var 4) (da_cons (de_tup (da_cons de_str (da_cons (de_ix (de_var 6) de_int) (da_cons (de_op op_mod od_mod (de_op op_mulD od_mul (de_ix (de_var 6) de_int) (de_ix (de_ix (de_var 7) de_int) de_int)) (de_var 3)) (da_cons (de_tup da_nil) da_nil))))) da_nil)))
 (dss_one ds_cont)) dss_nil)
 (dss_one (ds_for po rfl (di_rngD (de_op op_sub od_sub (de_var 3) de_int) de_int (de_un un_neg ou_neg de_int) b_range) (dg_nm 8 nd) (dss_one (ds_drop (de_extend (de_var 5) (da_cons (de_rev (de_call (F_round_tasks.mono (by decide)) tk hr (da_cons (de_var 7) (da_cons (de_var 6) (da_cons (de_var 8) (da_cons (de_var 3) da_nil)))))) da_nil)))))))))))
 (dss_one (ds_ret (de_make (F_Program___init__.mono (by decide)) tk hr (da_cons (de_var 3) (da_cons de_int (da_cons de_int (da_cons (de_var 4) da_nil)))))))))))))
theorem d_compile_tree {P : Program} {w : World} {K : PySem.W.Frag} {mg : Str → Option Value} {base : Heap} {f : Addr} {fd : FuncData} (F : FunD K "compile_tree" "compile_tree" (defArgs s_compile_tree) (defBody s_compile_tree) (defScope s_compile_tree) [] [] f fd) (hmg : mg "compile_tree" = some (.ref f)) (b_len : mg "len" = none) (b_range : mg "range" = none) (c_STEPS : ∃ u, mg "STEPS" = some u ∧ RelV (.int  20000) u) (F_rows_of : Dfn P w K mg base 6 "rows_of" 2 m_rows_of) (F_tree_cost : Dfn P w K mg base 7 "tree_cost" 2 m_tree_cost) (F_prime_of : Dfn P w K mg base 2 "prime_of" 1 m_prime_of) (F_is_integer : Dfn P w K mg base 1 "is_integer" 1 m_is_integer) (F_round_tasks : Dfn P w K mg base 2 "round_tasks" 4 m_round_tasks) (F_Program___init__ : MkI P w K mg base 7 "Program" 5 m_Program___init__) (x_TooLong : XCl K mg "TooLong") : Dfn P w K mg base 9 "compile_tree" 2 m_compile_tree :=
  dfn_of F hmg (FunD.bindsN F fun _ _ _ _ _ _ us hl => match us, hl with | [_, _], _ => rfl) (w_compile_tree F b_len b_range c_STEPS F_rows_of F_tree_cost F_prime_of F_is_integer F_round_tasks F_Program___init__ x_TooLong)

abbrev N__law_refused : List Str := ["_law_tree_here", "_law_values", "_law_which", "e"]
abbrev P__law_refused : List Str := ["_law_tree_here", "_law_values", "_law_which"]
theorem sc__law_refused : FnScope N__law_refused P__law_refused (defScope s__law_refused) := ⟨rfl, rfl, rfl, by decide +kernel, rfl, by decide +kernel, by decide +kernel⟩
noncomputable def g__law_refused : SF := (sSeq (sTryAs (tblOf [("BrimfulError", false), ("BadStep", false), ("BadMemory", false), ("BadSource", false), ("TooLong", false), ("BadTree", true)]) 3 (sSeq (sIf (tVal (eOp eqG (eVar 2) (eC (.int 0)))) (sRet (isNN (eCall m_check_tree (aCons (eVar 0) (aCons (eVar 1) aNil))))) sNil)
 (sIf (tVal (eOp eqG (eVar 2) (eC (.int 1)))) (sDrop (eCall m_tree_value (aCons (eVar 0) (aCons (eVar 1) aNil)))) (sIf (tVal (eOp eqG (eVar 2) (eC (.int 2)))) (sDrop (eCall m_tree_cost (aCons (eVar 0) (aCons (eVar 1) aNil)))) (sIf (tVal (eOp eqG (eVar 2) (eC (.int 3)))) (sDrop (eCall m_compile_tree (aCons (eVar 0) (aCons (eVar 1) aNil)))) (sDrop (eCall m_prime_of (aCons (eVar 1) aNil))))))) (fun dn => (sRet (eAnd (eIsE 3 (tblOf [("BrimfulError", true), ("BadStep", true), ("BadMemory", true), ("BadSource", true), ("TooLong", true), ("BadTree", true)] dn)) (eNot (eIsE 3 (tblOf [("BrimfulError", false), ("BadStep", true), ("BadMemory", true), ("BadSource", true), ("TooLong", true), ("BadTree", false)] dn)))))))
 (sRet (eC (.bl false))))
noncomputable def m__law_refused : List D → Hd → Option (Rs D) := mir N__law_refused.length P__law_refused.length g__law_refused
theorem w__law_refused {P : Program} {w : World} {K : PySem.W.Frag} {mg : Str → Option Value} {base : Heap} {f : Addr} {fd : FuncData} (F : FunD K "_law_refused" "_law_refused" (defArgs s__law_refused) (defBody s__law_refused) (defScope s__law_refused) [] [] f fd) (b_isinstance : mg "isinstance" = none) (F_check_tree : Dfn P w K mg base 7 "check_tree" 2 m_check_tree) (F_tree_value : Dfn P w K mg base 7 "tree_value" 2 m_tree_value) (F_tree_cost : Dfn P w K mg base 7 "tree_cost" 2 m_tree_cost) (F_compile_tree : Dfn P w K mg base 9 "compile_tree" 2 m_compile_tree) (F_prime_of : Dfn P w K mg base 2 "prime_of" 1 m_prime_of) (i_BrimfulError : IsI K mg "BrimfulError" (tblOf [("BrimfulError", true), ("BadStep", true), ("BadMemory", true), ("BadSource", true), ("TooLong", true), ("BadTree", true)])) (k_BadMemory_BadSource_BadStep_TooLong : IsT K mg ["BadMemory", "BadSource", "BadStep", "TooLong"] (tblOf [("BrimfulError", false), ("BadStep", true), ("BadMemory", true), ("BadSource", true), ("TooLong", true), ("BadTree", false)])) (h_BadTree : Hnd K mg "BadTree" (tblOf [("BrimfulError", false), ("BadStep", false), ("BadMemory", false), ("BadSource", false), ("TooLong", false), ("BadTree", true)])) : FnOk P w K mg base (L2.CX P w) 10 f fd P__law_refused (spD K mg 3 m__law_refused) := by
  refine fn_mk (k := 9) (g := g__law_refused) F sc__law_refused fun cdv A outer s H E hr => ?_
  have nd := sc__law_refused.nd
  have tk : Takes (cxOf (L2.CX P w) P w K mg base N__law_refused "_law_refused" (defScope s__law_refused) f cdv A outer s H E) (fun cls d _ H => E cls d H) := takes_of rfl rfl rfl rfl
  have po : PassesOwn (model P w) (cxOf (L2.CX P w) P w K mg base N__law_refused "_law_refused" (defScope s__law_refused) f cdv A outer s H E).A (cxOf (L2.CX P w) P w K mg base N__law_refused "_law_refused" (defScope s__law_refused) f cdv A outer s H E).env (cxOf (L2.CX P w) P w K mg base N__law_refused "_law_refused" (defScope s__law_refused) f cdv A outer s H E).xe := passes_of rfl
  exact (dss_cons (ds_tryAsH 3 nd tk h_BadTree (fun W pn xe tk po => (dss_cons (ds_if (dt_cmp (op_eqP hr.units) od_eq (de_var 2) de_int) (dss_one (ds_ret (de_isNN (de_call (F_check_tree.mono (by decide)) tk hr (da_cons (de_var 0) (da_cons (de_var 1) da_nil)))))) dss_nil)
 (dss_one (ds_if (dt_cmp (op_eqP hr.units) od_eq (de_var 2) de_int) (dss_one (ds_drop (de_call (F_tree_value.mono (by decide)) tk hr (da_cons (de_var 0) (da_cons (de_var 1) da_nil))))) (dss_one (ds_if (dt_cmp (op_eqP hr.units) od_eq (de_var 2) de_int) (dss_one (ds_drop (de_call (F_tree_cost.mono (by decide)) tk hr (da_cons (de_var 0) (da_cons (de_var 1) da_nil))))) (dss_one (ds_if (dt_cmp (op_eqP hr.units) od_eq (de_var 2) de_int) (dss_one (ds_drop (de_call (F_compile_tree.mono (by decide)) tk hr (da_cons (de_var 0) (da_cons (de_var 1) da_nil))))) (dss_one (ds_drop (de_call (F_prime_of.mono (by decide)) tk hr (da_cons (de_var 1) da_nil)))))))))))) (fun a oe dn D pn hdn hz hv => (dss_one (ds_ret (de_and (de_isE i_BrimfulError hdn hz hv b_isinstance) (de_andE (de_not (de_isT k_BadMemory_BadSource_BadStep_TooLong hdn hz hv b_isinstance (by decide) (pr_cons (k_BadMemory_BadSource_BadStep_TooLong.gl 0 _ rfl) (pr_cons (k_BadMemory_BadSource_BadStep_TooLong.gl 1 _ rfl) (pr_cons (k_BadMemory_BadSource_BadStep_TooLong.gl 2 _ rfl) (pr_cons (k_BadMemory_BadSource_BadStep_TooLong.gl 3 _ rfl) pr_nil))))))))))))
 (dss_one (ds_ret de_bl)))
theorem d__law_refused {P : Program} {w : World} {K : PySem.W.Frag} {mg : Str → Option Value} {base : Heap} {f : Addr} {fd : FuncData} (F : FunD K "_law_refused" "_law_refused" (defArgs s__law_refused) (defBody s__law_refused) (defScope s__law_refused) [] [] f fd) (hmg : mg "_law_refused" = some (.ref f)) (b_isinstance : mg "isinstance" = none) (F_check_tree : Dfn P w K mg base 7 "check_tree" 2 m_check_tree) (F_tree_value : Dfn P w K mg base 7 "tree_value" 2 m_tree_value) (F_tree_cost : Dfn P w K mg base 7 "tree_cost" 2 m_tree_cost) (F_compile_tree : Dfn P w K mg base 9 "compile_tree" 2 m_compile_tree) (F_prime_of : Dfn P w K mg base 2 "prime_of" 1 m_prime_of) (i_BrimfulError : IsI K mg "BrimfulError" (tblOf [("BrimfulError", true), ("BadStep", true), ("BadMemory", true), ("BadSource", true), ("TooLong", true), ("BadTree", true)])) (k_BadMemory_BadSource_BadStep_TooLong : IsT K mg ["BadMemory", "BadSource", "BadStep", "TooLong"] (tblOf [("BrimfulError", false), ("BadStep", true), ("BadMemory", true), ("BadSource", true), ("TooLong", true), ("BadTree", false)])) (h_BadTree : Hnd K mg "BadTree" (tblOf [("BrimfulError", false), ("BadStep", false), ("BadMemory", false), ("BadSource", false), ("TooLong", false), ("BadTree", true)])) : Dfn P w K mg base 10 "_law_refused" 3 m__law_refused :=
  dfn_of F hmg (FunD.bindsN F fun _ _ _ _ _ _ us hl => match us, hl with | [_, _, _], _ => rfl) (w__law_refused F b_isinstance F_check_tree F_tree_value F_tree_cost F_compile_tree F_prime_of i_BrimfulError k_BadMemory_BadSource_BadStep_TooLong h_BadTree)

abbrev N_law : List Str := ["_law_script", "_law_draws", "_law_given_here", "_law_which"]
abbrev P_law : List Str := ["_law_script"]
theorem sc_law : FnScope N_law P_law (defScope s_law) := ⟨rfl, rfl, rfl, by decide +kernel, rfl, by decide +kernel, by decide +kernel⟩
noncomputable def g_law : SF := (sSeq (sAsg 1 (eLst (aCons (eCall m__law_numbers (aCons (eVar 0) aNil)) (aCons (eC (.int 0)) aNil))))
 (sSeq (sAsg 2 (eCall m__law_given (aCons (eVar 1) aNil)))
 (sSeq (sIf (tTru (eOp ixG (eVar 2) (eC (.int 2)))) (sRet (eAnd (eNot (eCall m__law_refused (aCons (eOp ixG (eVar 2) (eC (.int 0))) (aCons (eOp ixG (eVar 2) (eC (.int 1))) (aCons (eC (.int 0)) aNil))))) (eNot (eCall m__law_refused (aCons (eOp ixG (eVar 2) (eC (.int 0))) (aCons (eOp ixG (eVar 2) (eC (.int 1))) (aCons (eC (.int 4)) aNil))))))) sNil)
 (sSeq (sFor (rng1 (eC (.int 4))) (.nm 3) (sIf (tNot (tTru (eCall m__law_refused (aCons (eOp ixG (eVar 2) (eC (.int 0))) (aCons (eOp ixG (eVar 2) (eC (.int 1))) (aCons (eVar 3) aNil)))))) (sRet (eC (.bl false))) sNil))
 (sSeq (sIf (tOr (tTru (eUn (isiG .bl) (eOp ixG (eVar 2) (eC (.int 1))))) (tOr (tVal (isN (eOp ixG (eVar 2) (eC (.int 1))))) (tOr (tVal (eOp ltG (eOp ixG (eVar 2) (eC (.int 1))) (eC (.int 1)))) (tVal (eOp gtG (eOp ixG (eVar 2) (eC (.int 1))) (eC (.int 40))))))) (sRet (eCall m__law_refused (aCons (eOp ixG (eVar 2) (eC (.int 0))) (aCons (eOp ixG (eVar 2) (eC (.int 1))) (aCons (eC (.int 4)) aNil))))) sNil)
 (sRet (eC (.bl true))))))))
noncomputable def m_law : List D → Hd → Option (Rs D) := mir N_law.length P_law.length g_law
theorem w_law {P : Program} {w : World} {K : PySem.W.Frag} {mg : Str → Option Value} {base : Heap} {f : Addr} {fd : FuncData} (F : FunD K "law" "law" (defArgs s_law) (defBody s_law) (defScope s_law) [] [] f fd) (b_range : mg "range" = none) (b_isinstance : mg "isinstance" = none) (b_bool : mg "bool" = none) (F__law_numbers : Dfn P w K mg base 2 "_law_numbers" 1 m__law_numbers) (F__law_given : Dfn P w K mg base 65 "_law_given" 1 m__law_given) (F__law_refused : Dfn P w K mg base 10 "_law_refused" 3 m__law_refused) : FnOk P w K mg base (L2.CX P w) 66 f fd P_law (spD K mg 1 m_law) := by
  refine fn_mk (k := 65) (g := g_law) F sc_law fun cdv A outer s H E hr => ?_
  have nd := sc_law.nd
  have tk : Takes (cxOf (L2.CX P w) P w K mg base N_law "law" (defScope s_law) f cdv A outer s H E) (fun cls d _ H => E cls d H) := takes_of rfl rfl rfl rfl
  have po : PassesOwn (model P w) (cxOf (L2.CX P w) P w K mg base N_law "law" (defScope s_law) f cdv A outer s H E).A (cxOf (L2.CX P w) P w K mg base N_law "law" (defScope s_law) f cdv A outer s H E).env (cxOf (L2.CX P w) P w K mg base N_law "law" (defScope s_law) f cdv A outer s H E).xe := passes_of rfl
  exact (dss_cons (ds_set 1 nd (de_lst (da_cons (de_call (F__law_numbers.mono (by decide)) tk hr (da_cons (de_var 0) da_nil)) (da_cons de_int da_nil))))
 (dss_cons (ds_set 2 nd (de_call (F__law_given.mono (by decide)) tk hr (da_cons (de_var 1) da_nil)))
 (dss_cons (ds_if (dt_tru (de_ix (de_var 2) de_int)) (dss_one (ds_ret (de_and (de_not (de_call (F__law_refused.mono (by decide)) tk hr (da_cons (de_ix (de_var 2) de_int) (da_cons (de_ix (de_var 2) de_int) (da_cons de_int da_nil))))) (de_andE (de_not (de_call (F__law_refused.mono (by decide)) tk hr (da_cons (de_ix (de_var 2) de_int) (da_cons (de_ix (de_var 2) de_int) (da_cons de_int da_nil))))))))) dss_nil)
 (dss_cons (ds_for po rfl (di_rng1 de_int b_range) (dg_nm 3 nd) (dss_one (ds_if (dt_not (dt_tru (de_call (F__law_refused.mono (by decide)) tk hr (da_cons (de_ix (de_var 2) de_int) (da_cons (de_ix (de_var 2) de_int) (da_cons (de_var 3) da_nil)))))) (dss_one (ds_ret de_bl)) dss_nil)))
 (dss_cons (ds_if (dt_w (dw_or (dt_tru (de_isi .bl (de_ix (de_var 2) de_int) b_isinstance b_bool PyProof.Rows.boot_bool)) (dw_or (dt_isN (de_ix (de_var 2) de_int)) (dw_or (dt_cmp op_lt od_lt (de_ix (de_var 2) de_int) de_int) (dw_or1 (dt_cmp op_gt od_gt (de_ix (de_var 2) de_int) de_int)))))) (dss_one (ds_ret (de_call (F__law_refused.mono (by decide)) tk hr (da_cons (de_ix (de_var 2) de_int) (da_cons (de_ix (de_var 2) de_int) (da_cons de_int da_nil)))))) dss_nil)
 (dss_one (ds_ret de_bl)))))))
theorem d_law {P : Program} {w : World} {K : PySem.W.Frag} {mg : Str → Option Value} {base : Heap} {f : Addr} {fd : FuncData} (F : FunD K "law" "law" (defArgs s_law) (defBody s_law) (defScope s_law) [] [] f fd) (hmg : mg "law" = some (.ref f)) (b_range : mg "range" = none) (b_isinstance : mg "isinstance" = none) (b_bool : mg "bool" = none) (F__law_numbers : Dfn P w K mg base 2 "_law_numbers" 1 m__law_numbers) (F__law_given : Dfn P w K mg base 65 "_law_given" 1 m__law_given) (F__law_refused : Dfn P w K mg base 10 "_law_refused" 3 m__law_refused) : Dfn P w K mg base 66 "law" 1 m_law :=
  dfn_of F hmg (FunD.bindsN F fun _ _ _ _ _ _ us hl => match us, hl with | [_], _ => rfl) (w_law F b_range b_isinstance b_bool F__law_numbers F__law_given F__law_refused)

end G

end

section
set_option Elab.async false
set_option linter.all false
set_option maxRecDepth 100000
set_option maxHeartbeats 4000000
namespace G
open DI PySem
open L2 (atI ixN)
local macro_rules | `(tactic| walk_at "di") => `(tactic| try simp only [wp_seq, wp_exB, wp_bnd, wp_some, wp_none, sAsg, sPar, sRet, sRetN, sDrop, sIf, sNil, sBreak, sCont, sRaise, sAug, sSetI, sAsgT, sFor, eVar, eC, eOp, eUn, eCall, eCB, eTup, eLst, eSl, oNone, oSome, eLm, aNil, aCons, eIf, eChain_r, tVal, bOf, tTru, truD, tAnd, tOr, tNot, eAnd_r, eOr_r, eNot, isN, isNN, D.isNon, tYes, seqI, rng1, rng2,
  Tg.put, setAll, Tg.sl, bnd_ok, bnd_er, bnd_none, exB_ok, exB_er, exB_none, pr_some, pr_none, List.getElem?_cons_zero, List.getElem?_cons_succ, List.set_cons_zero, List.set_cons_succ, List.length_cons, List.length_nil, nxQ_nx, nxQ_rt, nxQ_bk, nxQ_ct, nxQ_xx, fnQ_rt, fnQ_nx, fnQ_xx, lpQ_nx, lpQ_ct, lpQ_bk, lpQ_rt, lpQ_xx, okQ, wp_ite, if_true, reduceCtorEq, Bool.true_eq_false, if_false, decide_eq_true_eq, Bool.false_eq_true, Bool.not_eq_true', decide_eq_false_iff_not, Bool.not_true, Bool.not_false,
  addG_int, addIG_int, subG_int, negG_int, ltG_int, leG_int, gtG_int, geG_int, eqG_int, neG_int, eqG_str, neG_str, eqG_bl, neG_bl, ixG_tup, ixG_fl, lenD_tup, lenD_fl, ixG_r, lenD_r, atI_c0, atI_c1, atI_c2, atI_c3, ixN_2, List.getElem?_concat_length, set_app, if_smP, if_smP2, intG_int, intG_bl, min2_int, max2_int, isiG_non, isiG_int, isiG_bl, isiG_str, isiG_tup, isiG_fl, Ty.sub, modG_ok, divG_ok, mulG_r, mulG_l, powG_10, powG_2, startD, wip, List.map_cons, List.map_nil, List.cons_append, List.nil_append, List.replicate, Nat.sub_self, Nat.zero_le, Nat.reduceLeDiff, Nat.reduceAdd, Nat.reduceSub, Int.reduceNeg, Int.reduceLT, Int.reduceLE, Int.reduceEq, Int.reducePow, Int.reduceMul, Int.reduceAdd, Int.reduceToNat, Nat.reduceLT, Nat.reduceEqDiff, and_self, and_true, true_and, reduceIte, appendG])
local macro_rules | `(tactic| walk_at "ds") => `(tactic| try simp only [wp_seq, wp_exB, wp_bnd, wp_some, wp_none, sAsg, sPar, sRet, sRetN, sDrop, sNil, sBreak, sCont, sRaise, sAug, sSetI, sAsgT, sFor, eVar, eC, eOp, eUn, eCall, eCB, eTup, eLst, eSl, oNone, oSome, eLm, aNil, aCons, eIf, eChain_r, tVal, bOf, tTru, truD, tAnd, tOr, tNot, eAnd_r, eOr_r, eNot, isN, isNN, D.isNon, tYes, seqI, rng1, rng2,
  Tg.put, setAll, Tg.sl, bnd_ok, bnd_er, bnd_none, exB_ok, exB_er, exB_none, pr_some, pr_none, List.getElem?_cons_zero, List.getElem?_cons_succ, List.set_cons_zero, List.set_cons_succ, List.length_cons, List.length_nil, nxQ_nx, nxQ_rt, nxQ_bk, nxQ_ct, nxQ_xx, fnQ_rt, fnQ_nx, fnQ_xx, lpQ_nx, lpQ_ct, lpQ_bk, lpQ_rt, lpQ_xx, okQ, wp_ite, if_true, reduceCtorEq, Bool.true_eq_false, if_false, decide_eq_true_eq, Bool.false_eq_true, Bool.not_eq_true', decide_eq_false_iff_not, Bool.not_true, Bool.not_false,
  addG_int, addIG_int, subG_int, negG_int, ltG_int, leG_int, gtG_int, geG_int, eqG_int, neG_int, eqG_str, neG_str, eqG_bl, neG_bl, ixG_tup, ixG_fl, lenD_tup, lenD_fl, ixG_r, lenD_r, atI_c0, atI_c1, atI_c2, atI_c3, ixN_2, List.getElem?_concat_length, set_app, if_smP, if_smP2, intG_int, intG_bl, min2_int, max2_int, isiG_non, isiG_int, isiG_bl, isiG_str, isiG_tup, isiG_fl, Ty.sub, modG_ok, divG_ok, mulG_r, mulG_l, powG_10, powG_2, startD, wip, List.map_cons, List.map_nil, List.cons_append, List.nil_append, List.replicate, Nat.sub_self, Nat.zero_le, Nat.reduceLeDiff, Nat.reduceAdd, Nat.reduceSub, Int.reduceNeg, Int.reduceLT, Int.reduceLE, Int.reduceEq, Int.reducePow, Int.reduceMul, Int.reduceAdd, Int.reduceToNat, Nat.reduceLT, Nat.reduceEqDiff, and_self, and_true, true_and, reduceIte, appendG])
/-! ### draws -/
def mixed (a b : Int) : Int := ((a * 48271 + b * 69621 + 12345) % 2147483647 * ((a * 48271 + b * 69621 + 12345) % 2147483647 / 65536 + 3) + b) % 2147483647
theorem mixed_eq (a b : Int) (M : Hd) : m__law_mixed [.int a, .int b] M = some (.ok (.int (mixed a b)) M) := by
  have h1 : 0 ≤ (a * 48271 + b * 69621 + 12345) % 2147483647 := Int.emod_nonneg _ (by decide)
  have h2 : (a * 48271 + b * 69621 + 12345) % 2147483647 < 2147483647 := Int.emod_lt_of_pos _ (by decide)
  simp [m__law_mixed, mir, g__law_mixed, startD, sSeq, sAsg, sRet, eOp, eVar, eC, mulG_r, modG_ok, divG_ok]
  rw [mulG_l (by omega)]
  simp [mixed, modG_ok]
theorem mixed_lo (a b : Int) : 0 ≤ mixed a b := Int.emod_nonneg _ (by decide)
theorem mixed_hi (a b : Int) : mixed a b < 2147483647 := Int.emod_lt_of_pos _ (by decide)
/-- numbers below a million -/
def Nums (ds : List D) : Prop := ∀ d ∈ ds, ∃ i : Int, d = .int i ∧ 0 ≤ i ∧ i < 1000000
theorem Nums.add {ds : List D} (h : Nums ds) {i : Int} (h0 : 0 ≤ i) (h1 : i < 1000000) : Nums (ds ++ [.int i]) := fun d hd => by
  rcases List.mem_append.mp hd with hd | hd
  · exact h d hd
  · exact ⟨i, by simpa using hd, h0, h1⟩
theorem mod_lo (a : Int) : 0 ≤ a % 1000000 := Int.emod_nonneg _ (by decide)
theorem mod_hi (a : Int) : a % 1000000 < 1000000 := Int.emod_lt_of_pos _ (by decide)
theorem numbers_ok (ns : List Int) (h : ns.length ≤ 63) : Wp (m__law_numbers [.fl (ns.map D.int)] []) (okQ fun d M => ∃ ds, d = .ref 0 ∧ M = [.lst ds] ∧ Nums ds ∧ ds.length ≤ 4000) := by
  refine wp_mir rfl ?_
  unfold g__law_numbers
  walk_at "di"
  refine wp_forL (fun i r M => ∃ ds a b c, r = [some (.fl (ns.map D.int)), some (.ref 0), a, b, c] ∧ M = [.lst ds] ∧ Nums ds ∧ ds.length ≤ 60 * i) ?_ ?_ ?_
  · rintro i d r M hd ⟨ds, a, b, c, rfl, rfl, hN, hl⟩
    refine ⟨by simp, _, rfl, ?_⟩
    have hi : i < 63 := by
      have := (List.getElem?_eq_some_iff.mp hd).1
      rw [List.length_map] at this
      omega
    obtain ⟨n, hn, rfl⟩ : ∃ n, ns[i]? = some n ∧ d = .int n := by
      rw [List.getElem?_map] at hd
      cases e : ns[i]? with
      | none => rw [e] at hd; cases hd
      | some n => rw [e] at hd; exact ⟨n, rfl, (Option.some.inj hd).symm⟩
    walk_at "di"
    split
    · walk_at "di"
      refine wp_forL (fun j r M => ∃ ds n' c, r = [some (.fl (ns.map D.int)), some (.ref 0), some (.int n), some (.int n'), c] ∧ M = [.lst ds] ∧ Nums ds ∧ ds.length ≤ 60 * i + j) ?_ ?_ ?_
      · rintro j d r M hd ⟨ds, n', c, rfl, rfl, hN, hl⟩
        refine ⟨by simp, _, rfl, ?_⟩
        have hj := (ints_get hd).1
        walk_at "di"
        split
        · walk_at "di"
          rw [if_pos (by have : j < 60 := hj; omega)]
          walk_at "di"
          exact ⟨_, _, _, rfl, rfl, hN.add (mod_lo _) (mod_hi _), by simp; omega⟩
        · walk_at "di"
          exact ⟨_, _, _, rfl, rfl, hN, by omega⟩
      · rintro r M ⟨ds, n', c, rfl, rfl, hN, hl⟩
        refine ⟨by simp, ?_⟩
        rw [lpQ_nx]
        refine ⟨_, _, _, _, rfl, rfl, hN, ?_⟩
        rw [ints_length] at hl
        omega
      · exact ⟨_, _, _, rfl, rfl, hN, by omega⟩
    · walk_at "di"
      rw [if_pos (by omega)]
      walk_at "di"
      refine wp_forL (fun j r M => ∃ ds c, r = [some (.fl (ns.map D.int)), some (.ref 0), some (.int n), b, c] ∧ M = [.lst ds] ∧ Nums ds ∧ ds.length ≤ 60 * i + 1 + j) ?_ ?_ ?_
      · rintro j d r M hd ⟨ds, c, rfl, rfl, hN, hl⟩
        refine ⟨by simp, _, rfl, ?_⟩
        obtain ⟨hj, rfl⟩ := ints_get hd
        walk_at "di"
        rw [mixed_eq]
        walk_at "di"
        rw [mixed_eq]
        walk_at "di"
        rw [if_pos (by have : j < 5 := hj; omega)]
        walk_at "di"
        exact ⟨_, _, rfl, rfl, hN.add (mod_lo _) (mod_hi _), by simp; omega⟩
      · rintro r M ⟨ds, c, rfl, rfl, hN, hl⟩
        refine ⟨by simp, ?_⟩
        rw [lpQ_nx]
        refine ⟨_, _, _, _, rfl, rfl, hN, ?_⟩
        rw [ints_length] at hl
        omega
      · exact ⟨_, _, rfl, rfl, hN.add (mod_lo _) (mod_hi _), by simp; omega⟩
  · rintro r M ⟨ds, a, b, c, rfl, rfl, hN, hl⟩
    refine ⟨by simp, ?_⟩
    walk_at "di"
    refine ⟨ds, rfl, hN, ?_⟩
    simp at hl
    omega
  · exact ⟨[], none, none, none, rfl, rfl, (fun _ h => nomatch h), Nat.zero_le _⟩
theorem Nums.at {ds : List D} (h : Nums ds) {a : Int} (h0 : 0 ≤ a) (h1 : a < ds.length) : ∃ n, atI ds a = some (.int n) ∧ 0 ≤ n ∧ n < 1000000 := by
  have hl : a.toNat < ds.length := by omega
  obtain ⟨n, e, b⟩ := h _ (List.getElem_mem hl)
  exact ⟨n, atI_nn h0 (by rw [List.getElem?_eq_getElem hl, e]), b⟩
/-- the drawing state: numbers first, the cursor second, the rest after -/
def Dr (M R : Hd) : Prop := ∃ ds a, M = .lst ds :: .lst [.ref 0, .int a] :: R ∧ Nums ds ∧ 0 ≤ a
theorem draw_ok {M R : Hd} (h : Dr M R) : Wp (m__law_draw [.ref 1] M) (okQ fun d M1 => ∃ n, d = .int n ∧ 0 ≤ n ∧ n < 1000000 ∧ Dr M1 R) := by
  obtain ⟨ds, a, rfl, hN, ha⟩ := h
  have ha1 : (0 : Int) ≤ a + 1 := by omega
  refine wp_mir rfl ?_
  unfold g__law_draw
  walk_at "di"
  split
  · rename_i hlt
    obtain ⟨n, e, h0, h1⟩ := hN.at ha hlt
    walk_at "di"
    rw [e]
    walk_at "di"
    exact ⟨n, rfl, h0, h1, ds, _, rfl, hN, ha1⟩
  · walk_at "di"
    split
    · rename_i hlt
      obtain ⟨n, e, h0, h1⟩ := hN.at (Int.le_refl 0) hlt
      walk_at "di"
      rw [e]
      walk_at "di"
      rw [mixed_eq]
      walk_at "di"
      rw [mixed_eq]
      walk_at "di"
      exact ⟨_, rfl, mod_lo _, mod_hi _, ds, _, rfl, hN, ha1⟩
    · walk_at "di"
      rw [mixed_eq]
      walk_at "di"
      rw [mixed_eq]
      walk_at "di"
      exact ⟨_, rfl, mod_lo _, mod_hi _, ds, _, rfl, hN, ha1⟩
theorem Dr.len {M R : Hd} (h : Dr M R) : M.length = R.length + 2 := by obtain ⟨ds, a, rfl, _⟩ := h; rfl
theorem Dr.get {M R : Hd} (h : Dr M R) (k : Nat) : M[k + 2]? = R[k]? := by obtain ⟨ds, a, rfl, _⟩ := h; rfl
theorem Dr.set {M R : Hd} (h : Dr M R) (k : Nat) (o : O) : Dr (M.set (k + 2) o) (R.set k o) := by obtain ⟨ds, a, rfl, q⟩ := h; exact ⟨ds, a, rfl, q⟩
theorem Dr.app {M R : Hd} (h : Dr M R) (X : Hd) : Dr (M ++ X) (R ++ X) := by obtain ⟨ds, a, rfl, q⟩ := h; exact ⟨ds, a, rfl, q⟩
theorem get_app {R : Hd} {o : O} : (R ++ [o])[R.length]? = some o := by simp
theorem get_app_l {R X : Hd} {p : Nat} {o : O} (h : R[p]? = some o) : (R ++ X)[p]? = some o := by
  rw [List.getElem?_append_left (List.getElem?_eq_some_iff.mp h).1, h]
theorem get_set {R : Hd} {p : Nat} {o o2 : O} (h : R[p]? = some o) : (R.set p o2)[p]? = some o2 := by
  rw [List.getElem?_set_self (List.getElem?_eq_some_iff.mp h).1]
theorem addG_dr {M R : Hd} (h : Dr M R) {p q : Nat} {a b : List D} (ha : R[p]? = some (.lst a)) (hb : R[q]? = some (.lst b)) (hl : a.length + b.length ≤ 16777216) :
    addG (.ref (p + 2)) (.ref (q + 2)) M = some (.ok (.ref (R.length + 2)) (M ++ [.lst (a ++ b)])) := by
  rw [addG_r, h.get, h.get, ha, hb, h.len]
  exact if_pos hl
theorem all_app {Q : D → Prop} {a b : List D} (ha : ∀ d ∈ a, Q d) (hb : ∀ d ∈ b, Q d) : ∀ d ∈ a ++ b, Q d := fun d hd => (List.mem_append.mp hd).elim (ha d) (hb d)
theorem all_1 {Q : D → Prop} {a : D} (ha : Q a) : ∀ d ∈ [a], Q d := fun d hd => by rw [List.mem_singleton] at hd; subst hd; exact ha
theorem all_2 {Q : D → Prop} {a b : D} (ha : Q a) (hb : Q b) : ∀ d ∈ [a, b], Q d := all_app (a := [a]) (all_1 ha) (all_1 hb)
theorem rng1_ok {n : Int} (h : Sm n) {r : Ev} {M : Hd} : rng1 (eC (.int n)) r M = some (.ok (intsD 0 n.toNat, []) M) := by
  unfold rng1
  simp only [eC, bnd_ok]
  exact if_pos h
/-- a list of draws -/
theorem wp_draws {n : Int} (hn : 0 ≤ n ∧ n < 16777216) {v : Nat} {own : List Nat} {f : EF} {r : Ev} {M R : Hd} {Q : D → Prop}
    (hf : ∀ (k : Int) M R, 0 ≤ k → k < n → Dr M R → Wp (f ((wip r own).set v (some (.int k))) M) (okQ fun d M1 => Q d ∧ Dr M1 R)) (h : Dr M R) :
    Wp (eLc (rng1 (eC (.int n))) (.nm v) tYes f own r M) (okQ fun d M1 => d = .ref (R.length + 2) ∧ ∃ ds, ds.length = n.toNat ∧ (∀ d ∈ ds, Q d) ∧ Dr M1 (R ++ [.lst ds])) := by
  refine wp_eLc ?_
  rw [rng1_ok (by unfold Sm; omega), wp_some]
  dsimp only
  refine wp_lcL (fun i M1 => ∃ acc, Dr M1 (R ++ [.lst acc]) ∧ acc.length = i ∧ ∀ d ∈ acc, Q d) ?_ ?_ ?_
  · rintro i d M1 hd ⟨acc, hD, hl, hq⟩
    obtain ⟨hi, rfl⟩ := ints_get hd
    refine ⟨by simp, _, rfl, ?_⟩
    unfold tYes
    rw [wp_some]
    refine ⟨(fun h => nomatch h), fun _ => ?_⟩
    refine (hf (0 + i) M1 _ (by omega) (by omega) hD).ok ?_
    rintro d M2 ⟨hd, hD2⟩
    refine ⟨acc, ?_, by omega, acc ++ [d], ?_, by simp [hl], ?_⟩
    · rw [h.len, hD2.get]; simp
    · have := hD2.set R.length (.lst (acc ++ [d]))
      rw [h.len]
      simpa using this
    · intro e he
      rcases List.mem_append.mp he with he | he
      · exact hq e he
      · rw [List.mem_singleton] at he; subst he; exact hd
  · rintro M1 ⟨acc, hD, hl, hq⟩
    refine ⟨by simp, ?_⟩
    rw [ints_length] at hl
    exact ⟨by rw [h.len], acc, hl, hq, hD⟩
  · exact ⟨[], h.app _, rfl, (fun _ h => nomatch h)⟩
/-- a list of things that draws make, the heap grows -/
theorem wp_makes {n : Int} (hn : 0 ≤ n ∧ n < 16777216) {v : Nat} {own : List Nat} {f : EF} {r : Ev} {M R : Hd} {Q : D → Prop}
    (hf : ∀ (k : Int) M R, 0 ≤ k → k < n → Dr M R → Wp (f ((wip r own).set v (some (.int k))) M) (okQ fun d M1 => Q d ∧ ∃ X, Dr M1 (R ++ X))) {g : EF} (hg : ∀ M, g r M = some (.ok (.int n) M)) (h : Dr M R) :
    Wp (eLc (rng1 g) (.nm v) tYes f own r M) (okQ fun d M1 => d = .ref (R.length + 2) ∧ ∃ ds Y, ds.length = n.toNat ∧ (∀ d ∈ ds, Q d) ∧ Dr M1 (R ++ .lst ds :: Y)) := by
  refine wp_eLc ?_
  have e : rng1 g r M = some (.ok (intsD 0 n.toNat, []) M) := by
    unfold rng1
    rw [hg]
    exact if_sm (by omega)
  rw [e, wp_some]
  dsimp only
  refine wp_lcL (fun i M1 => ∃ acc Y, Dr M1 (R ++ .lst acc :: Y) ∧ acc.length = i ∧ ∀ d ∈ acc, Q d) ?_ ?_ ?_
  · rintro i d M1 hd ⟨acc, Y, hD, hl, hq⟩
    obtain ⟨hi, rfl⟩ := ints_get hd
    refine ⟨by simp, _, rfl, ?_⟩
    unfold tYes
    rw [wp_some]
    refine ⟨(fun h => nomatch h), fun _ => ?_⟩
    refine (hf (0 + i) M1 _ (by omega) (by omega) hD).ok ?_
    rintro d M2 ⟨hd, X, hD2⟩
    rw [List.append_assoc, List.cons_append] at hD2
    refine ⟨acc, ?_, by omega, acc ++ [d], Y ++ X, ?_, by simp [hl], ?_⟩
    · rw [h.len, hD2.get, get_mid]
    · have := hD2.set R.length (.lst (acc ++ [d]))
      rw [h.len]
      rwa [set_mid] at this
    · intro e he
      rcases List.mem_append.mp he with he | he
      · exact hq e he
      · rw [List.mem_singleton] at he; subst he; exact hd
  · rintro M1 ⟨acc, Y, hD, hl, hq⟩
    refine ⟨by simp, ?_⟩
    rw [ints_length] at hl
    exact ⟨by rw [h.len], acc, Y, hl, hq, hD⟩
  · exact ⟨[], [], h.app _, rfl, (fun _ h => nomatch h)⟩
/-- .. the range told by what it comes to -/
theorem wp_makes2 {n : Int} (hn : 0 ≤ n ∧ n < 16777216) {v : Nat} {own : List Nat} {f : EF} {r : Ev} {M0 M R : Hd} {it : IF} {Q : D → Prop}
    (hf : ∀ (k : Int) M R, 0 ≤ k → k < n → Dr M R → Wp (f ((wip r own).set v (some (.int k))) M) (okQ fun d M1 => Q d ∧ ∃ X, Dr M1 (R ++ X))) (e : it r M0 = some (.ok (intsD 0 n.toNat, []) M)) (h : Dr M R) :
    Wp (eLc it (.nm v) tYes f own r M0) (okQ fun d M1 => d = .ref (R.length + 2) ∧ ∃ ds Y, ds.length = n.toNat ∧ (∀ d ∈ ds, Q d) ∧ Dr M1 (R ++ .lst ds :: Y)) := by
  refine wp_eLc ?_
  rw [e, wp_some]
  dsimp only
  refine wp_lcL (fun i M1 => ∃ acc Y, Dr M1 (R ++ .lst acc :: Y) ∧ acc.length = i ∧ ∀ d ∈ acc, Q d) ?_ ?_ ?_
  · rintro i d M1 hd ⟨acc, Y, hD, hl, hq⟩
    obtain ⟨hi, rfl⟩ := ints_get hd
    refine ⟨by simp, _, rfl, ?_⟩
    unfold tYes
    rw [wp_some]
    refine ⟨(fun h => nomatch h), fun _ => ?_⟩
    refine (hf (0 + i) M1 _ (by omega) (by omega) hD).ok ?_
    rintro d M2 ⟨hd, X, hD2⟩
    rw [List.append_assoc, List.cons_append] at hD2
    refine ⟨acc, ?_, by omega, acc ++ [d], Y ++ X, ?_, by simp [hl], ?_⟩
    · rw [h.len, hD2.get, get_mid]
    · have := hD2.set R.length (.lst (acc ++ [d]))
      rw [h.len]
      rwa [set_mid] at this
    · intro e he
      rcases List.mem_append.mp he with he | he
      · exact hq e he
      · rw [List.mem_singleton] at he; subst he; exact hd
  · rintro M1 ⟨acc, Y, hD, hl, hq⟩
    refine ⟨by simp, ?_⟩
    rw [ints_length] at hl
    exact ⟨by rw [h.len], acc, Y, hl, hq, hD⟩
  · exact ⟨[], [], h.app _, rfl, (fun _ h => nomatch h)⟩
theorem draw_eq {M R : Hd} (h : Dr M R) : ∃ n M1, m__law_draw [.ref 1] M = some (.ok (.int n) M1) ∧ 0 ≤ n ∧ n < 1000000 ∧ Dr M1 R := by
  obtain ⟨o, e, q⟩ := draw_ok h
  cases o with
  | ok d M1 =>
    obtain ⟨n, rfl, q⟩ := q
    exact ⟨n, M1, e, q⟩
  | er c M1 => exact q.elim
/-! ### _law_equal answers True of data that are alike -/
def Eqv (M : Hd) : Nat → D → D → Prop
  | _, .non, .non => True
  | _, .bl b, .bl c => b = c
  | _, .int b, .int c => b = c
  | _, .str b, .str c => b = c
  | n + 1, .tup ds, .tup es => ds.length = es.length ∧ es.length < 16777216 ∧ ∀ (i : Nat) d e, ds[i]? = some d → es[i]? = some e → Eqv M n d e
  | n + 1, .ref i, .ref j => ∃ ds es, M[i]? = some (.lst ds) ∧ M[j]? = some (.lst es) ∧ ds.length = es.length ∧ es.length < 16777216 ∧ ∀ (i : Nat) d e, ds[i]? = some d → es[i]? = some e → Eqv M n d e
  | _, _, _ => False
theorem isiG_ref {T : Ty} {i : Nat} {ds : List D} {M : Hd} (h : M[i]? = some (.lst ds)) : isiG T (.ref i) M = some (.ok (.bl (Ty.lst.sub T)) M) := by
  unfold isiG tyD
  dsimp only
  rw [h]
theorem isiG_of {T t : Ty} {d : D} {M : Hd} (h : tyD d M = some t) : isiG T d M = some (.ok (.bl (t.sub T)) M) := by
  unfold isiG
  rw [h]
/-! ### a comprehension that only makes things -/
theorem wp_comp {M0 M : Hd} {r : Ev} {it : IF} {ds : List D} {gs : Gd} {t : Tg} {c : TF} {f : EF} {own : List Nat} {keep : D → Bool} {val : D → D} (hit : it r M0 = some (.ok (ds, gs) M)) (hgs : ∀ X, Still gs (M ++ X)) (hlen : ds.length < 16777216)
    (hf : ∀ d ∈ ds, ∀ X, ∃ r1, t.put d (wip r own) = some r1 ∧ Wp (c r1 (M ++ X)) (okQ fun b M1 => b = keep d ∧ ∃ Y, M1 = M ++ (X ++ Y) ∧ (b = true → Wp (f r1 M1) (okQ fun x M2 => x = val d ∧ ∃ Z, M2 = M ++ (X ++ Z))))) :
    Wp (eLc it t c f own r M0) (okQ fun d M1 => d = .ref M.length ∧ ∃ Z, M1 = M ++ .lst ((ds.filter keep).map val) :: Z) := by
  refine wp_eLc ?_
  rw [hit, wp_some]
  dsimp only
  refine wp_lcL (fun i M1 => ∃ Z, M1 = M ++ .lst (((ds.take i).filter keep).map val) :: Z) ?_ ?_ ?_
  · rintro i d M1 hd ⟨Z, rfl⟩
    have hi : i < ds.length := (List.getElem?_eq_some_iff.mp hd).1
    obtain ⟨r1, e1, h1⟩ := hf d (List.mem_of_getElem? hd) (.lst (((ds.take i).filter keep).map val) :: Z)
    refine ⟨hgs _, r1, e1, ?_⟩
    refine h1.ok ?_
    rintro b M1 ⟨rfl, Y, rfl, h2⟩
    have htk : ds.take (i + 1) = ds.take i ++ [d] := by
      rw [List.take_succ, hd]
      rfl
    refine ⟨fun hk => ?_, fun hk => ?_⟩
    · refine ⟨Z ++ Y, ?_⟩
      rw [htk, List.filter_append, List.filter_cons, hk]
      simp
    · refine (h2 hk).ok ?_
      rintro x M2 ⟨rfl, Z2, rfl⟩
      refine ⟨((ds.take i).filter keep).map val, ?_, ?_, Z ++ Z2, ?_⟩
      · simp
      · have h3 := List.length_filter_le keep (ds.take i)
        have h4 : (ds.take i).length ≤ ds.length := by rw [List.length_take]; omega
        rw [List.length_map]
        omega
      · rw [htk, List.filter_append, List.filter_cons, hk]
        simp
  · rintro M1 ⟨Z, rfl⟩
    exact ⟨hgs _, rfl, Z, by rw [List.take_length]⟩
  · exact ⟨[], by simp⟩
theorem mapM_int : ∀ (ns : List Int), (ns.map D.int).mapM intOf = some ns
  | [] => rfl
  | n :: ns => by
    rw [List.map_cons, List.mapM_cons, mapM_int ns]
    rfl
theorem mapM_bl : ∀ (ns : List Bool), (ns.map D.bl).mapM blOf = some ns
  | [] => rfl
  | n :: ns => by
    rw [List.map_cons, List.mapM_cons, mapM_bl ns]
    rfl
theorem get_here {M Z : Hd} {o : O} : (M ++ o :: Z)[M.length]? = some o := by simp
theorem get_old {M Z : Hd} {o : O} {i : Nat} (h : M[i]? = some o) : (M ++ Z)[i]? = some o := by
  rw [List.getElem?_append_left (List.getElem?_eq_some_iff.mp h).1, h]
theorem set_here {M Z : Hd} {o o2 : O} : (M ++ o :: Z).set M.length o2 = M ++ o2 :: Z := by simp
theorem seq_ref {f : EF} {r : Ev} {M M1 : Hd} {i : Nat} {ds : List D} (e : f r M = some (.ok (.ref i) M1)) (h : M1[i]? = some (.lst ds)) : seqI f r M = some (.ok (ds, [(i, ds)]) M1) := by
  unfold seqI
  rw [e]
  dsimp only [bnd_ok]
  rw [h]
theorem still_of {M : Hd} {i : Nat} {ds : List D} (h : M[i]? = some (.lst ds)) (X : Hd) : Still [(i, ds)] (M ++ X) := by
  simp only [still_one, still_nil, and_true]
  exact get_old h
theorem listG_ref {M : Hd} {i : Nat} {ds : List D} (h : M[i]? = some (.lst ds)) : listG (.ref i) M = some (.ok (.ref M.length) (M ++ [.lst ds])) := by
  unfold listG itemsD
  dsimp only
  rw [h]
/-! ### the texts of nodes -/
theorem sn_leaf_node : (("leaf" : Str) = "node") = False := eq_false (by decide +kernel)
theorem sn_node_leaf : (("node" : Str) = "leaf") = False := eq_false (by decide +kernel)
local macro_rules | `(tactic| walk_at "sx") => `(tactic| try simp only [wp_seq, Int.cast_ofNat_Int, or_false, false_or, decide_false, decide_true, Bool.not_false, Bool.not_true, eq_self_iff_true, sn_leaf_node, sn_node_leaf, wp_exB, wp_bnd, wp_some, wp_none, sAsg, sPar, sRet, sRetN, sDrop, sIf, sNil, sBreak, sCont, sRaise, sAug, sSetI, sAsgT, sFor, eVar, eC, eOp, eUn, eCall, eCB, eTup, eLst, eSl, oNone, oSome, eLm, aNil, aCons, eIf, eChain_r, tVal, bOf, tTru, truD, tAnd, tOr, tNot, eAnd_r, eOr_r, eNot, isN, isNN, D.isNon, tYes, seqI, rng1, rng2,
  Tg.put, setAll, Tg.sl, bnd_ok, bnd_er, bnd_none, exB_ok, exB_er, exB_none, pr_some, pr_none, List.getElem?_cons_zero, List.getElem?_cons_succ, List.set_cons_zero, List.set_cons_succ, List.length_cons, List.length_nil, nxQ_nx, nxQ_rt, nxQ_bk, nxQ_ct, nxQ_xx, fnQ_rt, fnQ_nx, fnQ_xx, lpQ_nx, lpQ_ct, lpQ_bk, lpQ_rt, lpQ_xx, okQ, wp_ite, if_true, reduceCtorEq, Bool.true_eq_false, if_false, decide_eq_true_eq, Bool.false_eq_true, Bool.not_eq_true', decide_eq_false_iff_not, Bool.not_true, Bool.not_false,
  addG_int, addIG_int, subG_int, negG_int, ltG_int, leG_int, gtG_int, geG_int, eqG_int, neG_int, eqG_str, neG_str, eqG_bl, neG_bl, ixG_tup, ixG_fl, lenD_tup, lenD_fl, ixG_r, lenD_r, atI_c0, atI_c1, atI_c2, atI_c3, ixN_2, List.getElem?_concat_length, set_app, if_smP, if_smP2, intG_int, intG_bl, min2_int, max2_int, isiG_non, isiG_int, isiG_bl, isiG_str, isiG_tup, isiG_fl, Ty.sub, modG_ok, divG_ok, mulG_r, mulG_l, powG_10, powG_2, startD, wip, List.map_cons, List.map_nil, List.cons_append, List.nil_append, List.replicate, Nat.sub_self, Nat.zero_le, Nat.reduceLeDiff, Nat.reduceAdd, Nat.reduceSub, Int.reduceNeg, Int.reduceLT, Int.reduceLE, Int.reduceEq, Int.reducePow, Int.reduceMul, Int.reduceAdd, Int.reduceToNat, Nat.reduceLT, Nat.reduceEqDiff, and_self, and_true, true_and, reduceIte, appendG])

/-! ### trees -/
def cN (cs : List Int) (i : Nat) : Int := cs.getD i 0
theorem cN_get {cs : List Int} {i : Nat} (h : i < cs.length) : cs[i]? = some (cN cs i) := by
  unfold cN
  rw [List.getD_eq_getElem?_getD, List.getElem?_eq_getElem h]
  rfl
theorem cN_mem {cs : List Int} {i : Nat} (h : i < cs.length) : cN cs i ∈ cs := List.mem_of_getElem? (cN_get h)
theorem atI_cN {cs : List Int} {i : Int} {j : Nat} (h : j < cs.length) (e : i = j) : atI (cs.map D.int) i = some (.int (cN cs j)) := by
  subst e
  apply L2.atI_nat
  rw [List.getElem?_map, cN_get h]
  rfl
inductive Tr where
  | leaf (v : Int) | node (tb : List (List Int)) (l r : Tr)
def rowD (row : List Int) : D := .tup (row.map D.int)
def tbD (tb : List (List Int)) : D := .tup (tb.map rowD)
def tD : Tr → D
  | .leaf v => .tup [.str "leaf", .int v]
  | .node tb l r => .tup [.str "node", tbD tb, tD l, tD r]
structure TbOk (n : Int) (tb : List (List Int)) : Prop where
  l : (tb.length : Int) = n
  r : ∀ row ∈ tb, (row.length : Int) = n ∧ ∀ x ∈ row, 0 ≤ x ∧ x < n
def TOk (n : Int) : Tr → Prop
  | .leaf v => 0 ≤ v ∧ v < n
  | .node tb l r => TbOk n tb ∧ TOk n l ∧ TOk n r
def Tr.dep : Tr → Nat
  | .leaf _ => 1
  | .node _ l r => 1 + max l.dep r.dep
def Tr.sz : Tr → Nat
  | .leaf _ => 1
  | .node _ l r => l.sz + r.sz + 1
theorem sz_pos : ∀ (t : Tr), 1 ≤ t.sz
  | .leaf _ => Nat.le_refl _
  | .node _ l r => by simp only [Tr.sz]; omega
theorem dep_pos : ∀ (t : Tr), 1 ≤ t.dep
  | .leaf _ => Nat.le_refl _
  | .node _ l r => by simp only [Tr.dep]; omega
theorem sz_dep : ∀ (t : Tr), t.sz + 1 ≤ 2 ^ t.dep
  | .leaf _ => by show 2 ≤ 2 ^ 1; decide
  | .node _ l r => by
    have h1 := sz_dep l
    have h2 := sz_dep r
    have h3 : 2 ^ l.dep ≤ 2 ^ max l.dep r.dep := Nat.pow_le_pow_right (by decide) (Nat.le_max_left _ _)
    have h4 : 2 ^ r.dep ≤ 2 ^ max l.dep r.dep := Nat.pow_le_pow_right (by decide) (Nat.le_max_right _ _)
    simp only [Tr.sz, Tr.dep]
    rw [Nat.add_comm 1, Nat.pow_succ]
    omega
def tget (tb : List (List Int)) (i j : Int) : Int := cN (tb.getD i.toNat []) j.toNat
def tv : Tr → Int
  | .leaf v => v
  | .node tb l r => tget tb (tv l) (tv r)
theorem row_mem {n : Int} {tb : List (List Int)} (h : TbOk n tb) {i : Int} (hi : 0 ≤ i ∧ i < n) : tb[i.toNat]? = some (tb.getD i.toNat []) ∧ tb.getD i.toNat [] ∈ tb := by
  have hl : i.toNat < tb.length := by have := h.l; omega
  have : tb[i.toNat]? = some (tb.getD i.toNat []) := by
    rw [List.getD_eq_getElem?_getD, List.getElem?_eq_getElem hl]
    rfl
  exact ⟨this, List.mem_of_getElem? this⟩
theorem tget_bd {n : Int} {tb : List (List Int)} (h : TbOk n tb) {i j : Int} (hi : 0 ≤ i ∧ i < n) (hj : 0 ≤ j ∧ j < n) : 0 ≤ tget tb i j ∧ tget tb i j < n := by
  have hm := (row_mem h hi).2
  have hr := h.r _ hm
  exact hr.2 _ (cN_mem (by omega))
theorem tv_bd {n : Int} : ∀ {t : Tr}, TOk n t → 0 ≤ tv t ∧ tv t < n
  | .leaf v, h => h
  | .node tb l r, h => tget_bd h.1 (tv_bd h.2.1) (tv_bd h.2.2)
theorem atI_tb {n : Int} {tb : List (List Int)} (h : TbOk n tb) {i : Int} (hi : 0 ≤ i ∧ i < n) : atI (tb.map rowD) i = some (.tup ((tb.getD i.toNat []).map D.int)) := by
  apply atI_nn hi.1
  rw [List.getElem?_map, (row_mem h hi).1]
  rfl
theorem atI_row {n : Int} {tb : List (List Int)} (h : TbOk n tb) {i j : Int} (hi : 0 ≤ i ∧ i < n) (hj : 0 ≤ j ∧ j < n) : atI ((tb.getD i.toNat []).map D.int) j = some (.int (tget tb i j)) := by
  have hr := h.r _ (row_mem h hi).2
  exact atI_cN (j := j.toNat) (by omega) (by omega)
theorem is_number_ok {n m : Int} {M : Hd} : Wp (m_is_number [.int n, .int m] M) (okQ fun d M1 => M1 = M ∧ d = .bl (decide (0 ≤ n ∧ n < m))) := by
  have hi : Wp (m_is_integer [.int n] M) (okQ fun d M1 => M1 = M ∧ d = .bl true) := by
    refine wp_mir rfl ?_
    unfold g_is_integer
    walk_at "di"
  refine wp_mir rfl ?_
  unfold g_is_number
  walk_at "ds"
  refine hi.ok ?_
  rintro _ _ ⟨rfl, rfl⟩
  walk_at "di"
  by_cases h0 : 0 ≤ n
  · rw [if_pos h0]
    simp [h0]
  · rw [if_neg h0]
    simp [h0]
theorem is_number_yes {n m : Int} {M : Hd} (h : 0 ≤ n ∧ n < m) : m_is_number [.int n, .int m] M = some (.ok (.bl true) M) := by
  obtain ⟨o, e, q⟩ := is_number_ok (n := n) (m := m) (M := M)
  cases o with
  | ok d M1 =>
    obtain ⟨rfl, rfl⟩ := q
    rw [e, decide_eq_true h]
  | er c M1 => exact q.elim
theorem is_integer_yes {n : Int} {M : Hd} : m_is_integer [.int n] M = some (.ok (.bl true) M) := by
  have hi : Wp (m_is_integer [.int n] M) (fun o => o = .ok (.bl true) M) := by
    refine wp_mir rfl ?_
    unfold g_is_integer
    walk_at "di"
  obtain ⟨o, e, rfl⟩ := hi
  exact e
theorem wp_eq {α : Type} {x : Option α} {o : α} (h : Wp x (fun o' => o' = o)) : x = some o := by
  obtain ⟨o', e, rfl⟩ := h
  exact e
theorem is_treetab_yes {n : Int} {tb : List (List Int)} {M : Hd} (h : TbOk n tb) (h1 : 1 ≤ n) : m_is_table [tbD tb, .int n] M = some (.ok (.bl true) M) := by
  have hl := h.l
  refine wp_eq ?_
  refine wp_mir rfl ?_
  unfold g_is_table tbD
  walk_at "ds"
  refine Wp.imp (Q := fun o => o = (Fl.nx [some (.tup (tb.map rowD)), some (.int n), none, none], M)) ?_ ?_
  · walk_at "di"
    rw [List.length_map, if_pos (by omega)]
    walk_at "di"
    rw [if_neg (by omega)]
    first | trivial | rfl
  rintro _ rfl
  walk_at "ds"
  refine wp_forL (fun i r M1 => ∃ a b, r = [some (.tup (tb.map rowD)), some (.int n), a, b] ∧ M1 = M) ?_ ?_ ?_
  · rintro i d r M1 hd ⟨a, b, rfl, rfl⟩
    rw [List.getElem?_map] at hd
    obtain ⟨row, hr, rfl⟩ := Option.map_eq_some_iff.mp hd
    obtain ⟨r1, r2⟩ := h.r row (List.mem_of_getElem? hr)
    refine ⟨by simp, _, rfl, ?_⟩
    generalize hS : some (D.tup (tb.map rowD)) = S
    unfold rowD
    subst hS
    walk_at "ds"
    refine Wp.imp (Q := fun o => o = (Fl.nx [some (.tup (tb.map rowD)), some (.int n), some (.tup (row.map D.int)), b], M1)) ?_ ?_
    · walk_at "di"
      rw [List.length_map, List.length_map, if_neg (by omega)]
      first | trivial | rfl
    rintro _ rfl
    walk_at "ds"
    refine wp_forL (fun i r M2 => ∃ b, r = [some (.tup (tb.map rowD)), some (.int n), some (.tup (row.map D.int)), b] ∧ M2 = M1) ?_ ?_ ?_
    · rintro i d r M2 hd ⟨b, rfl, rfl⟩
      rw [List.getElem?_map] at hd
      obtain ⟨x, hx, rfl⟩ := Option.map_eq_some_iff.mp hd
      refine ⟨by simp, _, rfl, ?_⟩
      walk_at "di"
      rw [is_number_yes (r2 x (List.mem_of_getElem? hx))]
      walk_at "di"
      exact ⟨_, rfl⟩
    · rintro r M2 ⟨b, rfl, rfl⟩
      refine ⟨by simp, ?_⟩
      walk_at "ds"
      exact ⟨_, _, rfl⟩
    · exact ⟨_, rfl, rfl⟩
  · rintro r M1 ⟨a, b, rfl, rfl⟩
    refine ⟨by simp, ?_⟩
    walk_at "ds"
  · exact ⟨none, none, rfl, rfl⟩
def Tr.isLf : Tr → Bool
  | .leaf _ => true
  | .node _ _ _ => false
theorem is_leaf_eq {n : Int} {t : Tr} {M : Hd} (h : TOk n t) : m_is_leaf [tD t, .int n] M = some (.ok (.bl t.isLf) M) := by
  refine wp_eq ?_
  refine wp_mir rfl ?_
  unfold g_is_leaf
  cases t with
  | leaf v =>
    unfold tD
    walk_at "sx"
    rw [is_number_yes h]
    walk_at "sx"
    first | done | rfl
  | node tb l r =>
    unfold tD
    walk_at "sx"
    first | done | rfl
theorem is_inner_yes {n : Int} {tb : List (List Int)} {l r : Tr} {M : Hd} (h : TbOk n tb) (h1 : 1 ≤ n) : m_is_inner [tD (.node tb l r), .int n] M = some (.ok (.bl true) M) := by
  have hl := h.l
  refine wp_eq ?_
  refine wp_mir rfl ?_
  unfold g_is_inner
  unfold tD
  walk_at "sx"
  rw [is_treetab_yes h h1]
  walk_at "sx"
  unfold tbD
  walk_at "sx"
  rw [List.length_map, decide_eq_true hl]
/-! ### the list of a tree's nodes -/
structure Row where
  t : Tr
  a : Int
  b : Int
def rwD (x : Row) : D := .tup [tD x.t, .int x.a, .int x.b]
def rws (s : Nat) : Tr → List Row
  | .leaf v => [⟨.leaf v, -1, -1⟩]
  | .node tb l r => rws s l ++ rws (s + l.sz) r ++ [⟨.node tb l r, ((s + l.sz : Nat) : Int) - 1, ((s + l.sz + r.sz : Nat) : Int) - 1⟩]
theorem rws_len : ∀ (t : Tr) (s : Nat), (rws s t).length = t.sz
  | .leaf _, _ => rfl
  | .node tb l r, s => by
    simp only [rws, List.length_append, List.length_singleton, Tr.sz]
    rw [rws_len l, rws_len r]
structure Tk where
  t : Tr
  d : Nat
  o : Bool
def tkD (k : Tk) : D := .tup [tD k.t, .int k.d, .bl k.o]
def exec : List Tk → List Row → List Int → List Row × List Int
  | [], R, P => (R, P)
  | ⟨t, _, false⟩ :: ts, R, P => exec ts (R ++ rws R.length t) (P ++ [((R.length + t.sz : Nat) : Int) - 1])
  | ⟨t, _, true⟩ :: ts, R, P => exec ts (R ++ [⟨t, cN P (P.length - 2), cN P (P.length - 1)⟩]) (P.dropLast.dropLast ++ [(R.length : Int)])
def okT : List Tk → Nat → Prop
  | [], _ => True
  | ⟨_, _, false⟩ :: ts, k => okT ts (k + 1)
  | ⟨_, _, true⟩ :: ts, k => 2 ≤ k ∧ okT ts (k - 1)
def wt : List Tk → Nat
  | [] => 0
  | ⟨t, _, false⟩ :: ts => 2 * t.sz + wt ts
  | ⟨_, _, true⟩ :: ts => 1 + wt ts
def cnt : List Tk → Nat
  | [] => 0
  | ⟨t, _, false⟩ :: ts => t.sz + cnt ts
  | ⟨_, _, true⟩ :: ts => 1 + cnt ts
theorem len_cnt : ∀ (ts : List Tk), ts.length ≤ cnt ts
  | [] => Nat.le_refl _
  | ⟨t, _, false⟩ :: ts => by
    have := len_cnt ts
    have := sz_pos t
    simp only [cnt, List.length_cons]
    omega
  | ⟨_, _, true⟩ :: ts => by
    have := len_cnt ts
    simp only [cnt, List.length_cons]
    omega
theorem exec_leaf {v : Int} {d : Nat} {ts : List Tk} {R : List Row} {P : List Int} : exec (⟨.leaf v, d, false⟩ :: ts) R P = exec ts (R ++ [⟨.leaf v, -1, -1⟩]) (P ++ [(R.length : Int)]) := by
  simp only [exec, rws, Tr.sz]
  have : (((R.length + 1 : Nat) : Int) - 1) = (R.length : Int) := by omega
  rw [this]
theorem cN_app2 {P : List Int} {x y : Int} : cN (P ++ [x, y]) P.length = x ∧ cN (P ++ [x, y]) (P.length + 1) = y := by
  unfold cN
  constructor <;> simp
theorem exec_node {tb : List (List Int)} {l r : Tr} {d e : Nat} {ts : List Tk} {R : List Row} {P : List Int} :
    exec (⟨l, e, false⟩ :: ⟨r, e, false⟩ :: ⟨.node tb l r, d, true⟩ :: ts) R P = exec (⟨.node tb l r, d, false⟩ :: ts) R P := by
  simp only [exec, rws, Tr.sz]
  have h1 : (R ++ rws R.length l).length = R.length + l.sz := by rw [List.length_append, rws_len]
  rw [h1]
  have h2 : (R ++ rws R.length l ++ rws (R.length + l.sz) r).length = R.length + l.sz + r.sz := by rw [List.length_append, h1, rws_len]
  rw [h2]
  have h3 : ∀ x y : Int, P ++ [x] ++ [y] = P ++ [x, y] := fun x y => by simp
  rw [h3]
  have h4 : (P ++ [((R.length + l.sz : Nat) : Int) - 1, ((R.length + l.sz + r.sz : Nat) : Int) - 1]).length - 2 = P.length := by simp
  have h5 : (P ++ [((R.length + l.sz : Nat) : Int) - 1, ((R.length + l.sz + r.sz : Nat) : Int) - 1]).length - 1 = P.length + 1 := by simp
  rw [h4, h5, cN_app2.1, cN_app2.2]
  have h6 : (P ++ [((R.length + l.sz : Nat) : Int) - 1, ((R.length + l.sz + r.sz : Nat) : Int) - 1]).dropLast.dropLast = P := by
    rw [← h3, List.dropLast_concat, List.dropLast_concat]
  rw [h6]
  have h7 : (((R.length + (l.sz + r.sz + 1) : Nat) : Int) - 1) = ((R.length + l.sz + r.sz : Nat) : Int) := by omega
  rw [h7, List.append_assoc, List.append_assoc, List.append_assoc, ← List.append_assoc]
theorem t3a {M : Hd} {a b c : O} : (M ++ [a, b, c])[M.length]? = some a := by simp
theorem t3b {M : Hd} {a b c : O} : (M ++ [a, b, c])[M.length + 1]? = some b := by simp
theorem t3c {M : Hd} {a b c : O} : (M ++ [a, b, c])[M.length + 2]? = some c := by simp
theorem s3a {M : Hd} {a b c x : O} : (M ++ [a, b, c]).set M.length x = M ++ [x, b, c] := by simp
theorem s3b {M : Hd} {a b c x : O} : (M ++ [a, b, c]).set (M.length + 1) x = M ++ [a, x, c] := by simp
theorem s3c {M : Hd} {a b c x : O} : (M ++ [a, b, c]).set (M.length + 2) x = M ++ [a, b, x] := by simp
theorem pop_ref {f : EF} {r : Ev} {M : Hd} {i : Nat} {ds : List D} {x : D} (e : f r M = some (.ok (.ref i) M)) (h : M[i]? = some (.lst (ds ++ [x]))) : eLm popG f aNil r M = some (.ok x (M.set i (.lst ds))) := by
  unfold eLm
  rw [e]
  dsimp only [bnd_ok]
  rw [h]
  dsimp only [aNil, bnd_ok]
  rw [h]
  dsimp only
  unfold popG
  have : (ds ++ [x])[(ds ++ [x]).length - 1]? = some x := by simp
  rw [this]
  dsimp only
  rw [List.dropLast_concat]
theorem wp_if' {t : TF} {f g : SF} {r : Ev} {M : Hd} {Q : Fl × Hd → Prop} {b : Bool} (h : t r M = some (.ok b M)) (hf : b = true → Wp (f r M) Q) (hg : b = false → Wp (g r M) Q) : Wp (sIf t f g r M) Q := by
  unfold sIf
  rw [h, exB_ok]
  cases b with
  | true => exact hf rfl
  | false => exact hg rfl
theorem wp_nil {g : SF} {r : Ev} {M : Hd} {Q : Fl × Hd → Prop} (h : Wp (g r M) Q) : Wp (sNil r M) (nxQ g Q) := by
  unfold sNil
  rw [wp_some, nxQ_nx]
  exact h
theorem listed_ok {n : Int} {t : Tr} {M : Hd} (h : TOk n t) (h1 : 1 ≤ n) (hd : t.dep ≤ 40) (hsz : t.sz ≤ 199) : Wp (m_listed [tD t, .int n] M) (okQ fun d M1 => d = .ref M.length ∧ ∃ a b, M1 = M ++ [.lst ((rws 0 t).map rwD), a, b]) := by
  refine wp_mir rfl ?_
  unfold g_listed
  walk_at "ds"
  have e0 : M ++ [O.lst []] ++ [O.lst []] ++ [O.lst [.tup [tD t, .int 1, .bl false]]] = M ++ [O.lst (([] : List Row).map rwD), O.lst (([] : List Int).map D.int), O.lst (([⟨t, 1, false⟩] : List Tk).reverse.map tkD)] := by simp [tkD]
  have e1 : (M ++ [O.lst []]).length = M.length + 1 := by simp
  have e2 : (M ++ [O.lst []] ++ [O.lst []]).length = M.length + 2 := by simp
  rw [e0, e1, e2]
  refine wp_while (n := wt [⟨t, 1, false⟩]) (fun w r M1 => ∃ (ts : List Tk) (R : List Row) (P : List Int) (x5 x6 x7 x8 x9 : Option D), r = [some (tD t), some (.int n), some (.ref M.length), some (.ref (M.length + 1)), some (.ref (M.length + 2)), x5, x6, x7, x8, x9] ∧ M1 = M ++ [.lst (R.map rwD), .lst (P.map D.int), .lst (ts.reverse.map tkD)] ∧ w = wt ts ∧ (exec ts R P).1 = rws 0 t ∧ okT ts P.length ∧ (∀ k ∈ ts, TOk n k.t ∧ (k.o = false → k.d + k.t.dep ≤ 41)) ∧ R.length + cnt ts ≤ 199 ∧ P.length ≤ R.length) ?_ ?_
  · rintro w r M1 ⟨ts, R, P, x5, x6, x7, x8, x9, rfl, rfl, rfl, he, hok, htk, hcn, hPR⟩
    have et : tTru (eVar 4) [some (tD t), some (.int n), some (.ref M.length), some (.ref (M.length + 1)), some (.ref (M.length + 2)), x5, x6, x7, x8, x9] (M ++ [.lst (R.map rwD), .lst (P.map D.int), .lst (ts.reverse.map tkD)]) = some (.ok (!(ts.reverse.map tkD).isEmpty) (M ++ [.lst (R.map rwD), .lst (P.map D.int), .lst (ts.reverse.map tkD)])) := by
      simp only [tTru, eVar, List.getElem?_cons_succ, List.getElem?_cons_zero, bnd_ok, truD]
      rw [t3c]
    rw [et, wp_some]
    dsimp only
    cases ts with
    | nil =>
      refine ⟨fun _ => ?_, fun hb => by simp at hb⟩
      walk_at "ds"
      have he : R = rws 0 t := he
      rw [he]
      exact ⟨_, _, rfl⟩
    | cons k ts =>
      refine ⟨fun hb => by simp at hb, fun _ => ?_⟩
      have hlc := len_cnt ts
      have hrev : (k :: ts).reverse.map tkD = ts.reverse.map tkD ++ [tkD k] := by simp
      rw [hrev]
      obtain ⟨hk1, hk2⟩ := htk k List.mem_cons_self
      have htk' : ∀ k ∈ ts, TOk n k.t ∧ (k.o = false → k.d + k.t.dep ≤ 41) := fun k hk => htk k (List.mem_cons_of_mem _ hk)
      rw [wp_seq]
      unfold sAsgT
      rw [pop_ref (i := M.length + 2) rfl t3c, exB_ok, s3c]
      obtain ⟨kt, kd, ko⟩ := k
      rw [show tkD (⟨kt, kd, ko⟩ : Tk) = .tup [tD kt, .int kd, .bl ko] from rfl]
      simp only [Tg.put, setAll, List.set_cons_succ, List.set_cons_zero]
      rw [wp_some, nxQ_nx, wp_seq]
      have hlR : (R.map rwD).length < 16777216 := by rw [List.length_map]; omega
      have hlP : P.length ≤ 16777215 := by omega
      have hlT : (ts.reverse.map tkD).length ≤ 1000 := by simp; cases ko <;> simp only [cnt] at hcn <;> omega
      cases ko with
      | true =>
        simp only [okT] at hok
        simp only [cnt] at hcn
        refine wp_if' (b := true) rfl (fun _ => ?_) (fun hb => nomatch hb)
        obtain ⟨P0, a, b, rfl⟩ : ∃ P0 a b, P = P0 ++ [a, b] := by
          rcases List.eq_nil_or_concat P with e | ⟨Q1, b, e⟩
          · rw [e] at hok; simp at hok
          · rcases List.eq_nil_or_concat Q1 with e2 | ⟨Q2, a, e2⟩
            · rw [e, e2] at hok; simp at hok
            · exact ⟨Q2, a, b, by rw [e, e2]; simp⟩
        have hP2 : (P0 ++ [a, b]).map D.int = (P0.map D.int ++ [.int a]) ++ [.int b] := by simp
        rw [hP2]
        rw [wp_seq]
        unfold sAsg
        rw [pop_ref (i := M.length + 1) rfl t3b, exB_ok, s3b]
        rw [wp_some, nxQ_nx, wp_seq]
        rw [pop_ref (i := M.length + 1) rfl t3b, exB_ok, s3b]
        rw [wp_some, nxQ_nx]
        simp only [List.set_cons_succ, List.set_cons_zero]
        walk_at "ds"
        rw [t3a]
        walk_at "ds"
        try rw [t3a]
        try dsimp only
        rw [if_pos hlR, s3a]
        walk_at "ds"
        rw [t3b]
        dsimp only
        rw [t3a]
        walk_at "ds"
        try rw [t3b]
        try dsimp only
        rw [if_pos (by simp; simp at hlP; omega), s3b]
        walk_at "ds"
        simp only [exec] at he
        have h4 : (P0 ++ [a, b]).length - 2 = P0.length := by simp
        have h5 : (P0 ++ [a, b]).length - 1 = P0.length + 1 := by simp
        have h6 : (P0 ++ [a, b]).dropLast.dropLast = P0 := by
          have : P0 ++ [a, b] = P0 ++ [a] ++ [b] := by simp
          rw [this, List.dropLast_concat, List.dropLast_concat]
        rw [h4, h5, h6, cN_app2.1, cN_app2.2] at he
        refine ⟨wt ts, by simp only [wt]; omega, ts, R ++ [⟨kt, a, b⟩], P0 ++ [(R.length : Int)], _, _, _, _, _, rfl, ?_, rfl, he, ?_, htk', by simp; omega, by simp at hPR ⊢; omega⟩
        · simp [rwD]
        · have h7 : (P0 ++ [a, b]).length - 1 = (P0 ++ [(R.length : Int)]).length := by simp
          rw [← h7]
          exact hok.2
      | false =>
        simp only [okT] at hok
        simp only [cnt] at hcn
        have hszp := sz_pos kt
        have hdp : kd + kt.dep ≤ 41 := hk2 rfl
        have hdpp := dep_pos kt
        refine wp_if' (b := false) rfl (fun hb => nomatch hb) (fun _ => wp_nil ?_)
        rw [wp_seq]
        refine Wp.imp (Q := fun o => o = (Fl.nx [some (tD t), some (.int n), some (.ref M.length), some (.ref (M.length + 1)), some (.ref (M.length + 2)), some (tD kt), some (.int kd), some (.bl false), x8, x9], M ++ [.lst (R.map rwD), .lst (P.map D.int), .lst (ts.reverse.map tkD)])) ?_ ?_
        · walk_at "di"
          rw [if_neg (by omega)]
          walk_at "di"
          rw [t3a]
          walk_at "di"
          rw [t3c]
          walk_at "di"
          rw [if_neg (by simp; omega)]
          first | done | trivial | rfl
        rintro _ rfl
        rw [nxQ_nx]
        have tlf : ∀ {b}, m_is_leaf [tD kt, .int n] (M ++ [.lst (R.map rwD), .lst (P.map D.int), .lst (ts.reverse.map tkD)]) = some (.ok (.bl b) (M ++ [.lst (R.map rwD), .lst (P.map D.int), .lst (ts.reverse.map tkD)])) → tTru (eCall m_is_leaf (aCons (eVar 5) (aCons (eVar 1) aNil))) [some (tD t), some (.int n), some (.ref M.length), some (.ref (M.length + 1)), some (.ref (M.length + 2)), some (tD kt), some (.int kd), some (.bl false), x8, x9] (M ++ [.lst (R.map rwD), .lst (P.map D.int), .lst (ts.reverse.map tkD)]) = some (.ok b (M ++ [.lst (R.map rwD), .lst (P.map D.int), .lst (ts.reverse.map tkD)])) := fun {b} e => by
          simp only [tTru, eCall, aCons, aNil, eVar, List.getElem?_cons_succ, List.getElem?_cons_zero, bnd_ok, e, truD]
        refine wp_if' (tlf (is_leaf_eq hk1)) (fun hb => ?_) (fun hb => ?_)
        · cases kt with
          | node tb l r => cases hb
          | leaf v =>
            walk_at "ds"
            rw [t3a]
            walk_at "ds"
            try rw [t3a]
            try dsimp only
            rw [if_pos hlR, s3a]
            walk_at "ds"
            rw [t3b]
            dsimp only
            rw [t3a]
            walk_at "ds"
            try rw [t3b]
            try dsimp only
            rw [if_pos (by simp; omega), s3b]
            walk_at "ds"
            rw [exec_leaf] at he
            refine ⟨wt ts, by simp only [wt, Tr.sz]; omega, ts, R ++ [⟨.leaf v, -1, -1⟩], P ++ [(R.length : Int)], _, _, _, _, _, rfl, ?_, rfl, he, by simpa using hok, htk', by simp; simp only [Tr.sz] at hcn; omega, by simp; omega⟩
            simp [rwD]
        · cases kt with
          | leaf v => cases hb
          | node tb l r =>
            obtain ⟨hk3, hk4, hk5⟩ := hk1
            have tin : tTru (eCall m_is_inner (aCons (eVar 5) (aCons (eVar 1) aNil))) [some (tD t), some (.int n), some (.ref M.length), some (.ref (M.length + 1)), some (.ref (M.length + 2)), some (tD (.node tb l r)), some (.int kd), some (.bl false), x8, x9] (M ++ [.lst (R.map rwD), .lst (P.map D.int), .lst (ts.reverse.map tkD)]) = some (.ok true (M ++ [.lst (R.map rwD), .lst (P.map D.int), .lst (ts.reverse.map tkD)])) := by
              simp only [tTru, eCall, aCons, aNil, eVar, List.getElem?_cons_succ, List.getElem?_cons_zero, bnd_ok, is_inner_yes (l := l) (r := r) hk3 h1, truD]
            refine wp_if' tin (fun _ => ?_) (fun hb => nomatch hb)
            have hpush : ∀ (k : Tk) (ts : List Tk), ts.reverse.map tkD ++ [tkD k] = (k :: ts).reverse.map tkD := fun k ts => by simp
            have hN : tD (.node tb l r) = .tup [.str "node", tbD tb, tD l, tD r] := rfl
            generalize hTt : tD t = T0
            walk_at "ds"
            rw [t3c]
            walk_at "ds"
            try rw [t3c]
            try dsimp only
            rw [if_pos (by omega), s3c]
            have p1 : D.tup [tD (.node tb l r), .int kd, .bl true] = tkD ⟨.node tb l r, kd, true⟩ := rfl
            rw [p1, hpush]
            walk_at "ds"
            rw [t3c]
            rw [hN]
            walk_at "ds"
            try rw [t3c]
            try dsimp only
            rw [if_pos (by simp at hlT ⊢; omega), s3c]
            have p2 : D.tup [tD r, .int ((kd : Int) + 1), .bl false] = tkD ⟨r, kd + 1, false⟩ := by simp [tkD]
            rw [p2, hpush]
            walk_at "ds"
            rw [t3c]
            walk_at "ds"
            try rw [t3c]
            try dsimp only
            rw [if_pos (by simp at hlT ⊢; omega), s3c]
            have p3 : D.tup [tD l, .int ((kd : Int) + 1), .bl false] = tkD ⟨l, kd + 1, false⟩ := by simp [tkD]
            rw [p3, hpush]
            walk_at "ds"
            rw [← exec_node (e := kd + 1) (d := kd)] at he
            have hdl : kd + 1 + l.dep ≤ 41 ∧ kd + 1 + r.dep ≤ 41 := by simp only [Tr.dep] at hdp; omega
            refine ⟨_, ?_, _, R, P, _, _, _, _, _, rfl, rfl, rfl, he, ?_, ?_, ?_, hPR⟩
            · simp only [wt, Tr.sz]; omega
            · simp only [okT]
              exact ⟨by omega, by simpa using hok⟩
            · intro k hk
              rcases List.mem_cons.mp hk with rfl | hk
              · exact ⟨hk4, fun _ => hdl.1⟩
              rcases List.mem_cons.mp hk with rfl | hk
              · exact ⟨hk5, fun _ => hdl.2⟩
              rcases List.mem_cons.mp hk with rfl | hk
              · exact ⟨⟨hk3, hk4, hk5⟩, fun e => nomatch e⟩
              · exact htk' k hk
            · simp only [cnt]
              simp only [Tr.sz] at hcn
              omega
  · refine ⟨[⟨t, 1, false⟩], [], [], none, none, none, none, none, rfl, rfl, rfl, ?_, trivial, ?_, by simp only [cnt]; simp; omega, Nat.le_refl _⟩
    · simp [exec]
    · intro k hk
      rw [List.mem_singleton] at hk
      subst hk
      exact ⟨h, fun _ => by simp only; omega⟩
/-! ### values -/
def vls : Tr → List Int
  | .leaf v => [v]
  | .node tb l r => vls l ++ vls r ++ [tget tb (tv l) (tv r)]
theorem vls_len : ∀ (t : Tr), (vls t).length = t.sz
  | .leaf _ => rfl
  | .node tb l r => by
    simp only [vls, List.length_append, List.length_singleton, Tr.sz]
    rw [vls_len l, vls_len r]
theorem vls_last : ∀ (t : Tr), ∃ xs, vls t = xs ++ [tv t]
  | .leaf v => ⟨[], rfl⟩
  | .node tb l r => ⟨vls l ++ vls r, rfl⟩
theorem vls_lastget (t : Tr) : (vls t)[t.sz - 1]? = some (tv t) := by
  obtain ⟨xs, e⟩ := vls_last t
  have := vls_len t
  rw [e, List.length_append, List.length_singleton] at this
  rw [e, ← this]
  simp
def RowOk (n : Int) (s : Nat) (vs : List Int) (k : Nat) (x : Row) : Prop :=
  (∃ v, x = ⟨.leaf v, -1, -1⟩ ∧ vs[k]? = some v) ∨ ∃ tb l r, ∃ a b : Nat, x = ⟨.node tb l r, (s + a : Nat), (s + b : Nat)⟩ ∧ a < k ∧ b < k ∧ vs[a]? = some (tv l) ∧ vs[b]? = some (tv r) ∧ vs[k]? = some (tget tb (tv l) (tv r)) ∧ TbOk n tb ∧ TOk n l ∧ TOk n r
theorem rws_ok {n : Int} : ∀ (t : Tr) (s : Nat), TOk n t → ∀ (k : Nat) x, (rws s t)[k]? = some x → RowOk n s (vls t) k x
  | .leaf v, s, h, k, x, e => by
    have hk : k = 0 := by
      have := (List.getElem?_eq_some_iff.mp e).1
      simp only [rws, List.length_singleton] at this
      omega
    subst hk
    simp only [rws, List.getElem?_cons_zero] at e
    cases e
    exact .inl ⟨v, rfl, rfl⟩
  | .node tb l r, s, h, k, x, e => by
    obtain ⟨h1, h2, h3⟩ := h
    simp only [rws] at e
    have hl := rws_len l s
    have hr := rws_len r (s + l.sz)
    have vl := vls_len l
    have vr := vls_len r
    have pl := sz_pos l
    have pr := sz_pos r
    by_cases hk1 : k < l.sz
    · rw [List.append_assoc, List.getElem?_append_left (by omega)] at e
      have hv : ∀ i, i < l.sz → ∀ y, (vls l)[i]? = some y → (vls (.node tb l r))[i]? = some y := fun i hi y hy => by
        simp only [vls]
        rw [List.append_assoc, List.getElem?_append_left (by omega)]
        exact hy
      rcases rws_ok l s h2 k x e with ⟨v, e1, e2⟩ | ⟨tb', l', r', a, b, e1, ha, hb, e2, e3, e4, q⟩
      · exact .inl ⟨v, e1, hv k hk1 _ e2⟩
      · exact .inr ⟨tb', l', r', a, b, e1, ha, hb, hv a (by omega) _ e2, hv b (by omega) _ e3, hv k hk1 _ e4, q⟩
    · by_cases hk2 : k < l.sz + r.sz
      · rw [List.append_assoc, List.getElem?_append_right (by omega), hl, List.getElem?_append_left (by omega)] at e
        have hv : ∀ i, i < r.sz → ∀ y, (vls r)[i]? = some y → (vls (.node tb l r))[l.sz + i]? = some y := fun i hi y hy => by
          simp only [vls]
          rw [List.append_assoc, List.getElem?_append_right (by omega), vl, List.getElem?_append_left (by omega), Nat.add_sub_cancel_left]
          exact hy
        have hk : l.sz + (k - l.sz) = k := by omega
        rcases rws_ok r (s + l.sz) h3 (k - l.sz) x e with ⟨v, e1, e2⟩ | ⟨tb', l', r', a, b, e1, ha, hb, e2, e3, e4, q⟩
        · have := hv _ (by omega) _ e2
          rw [hk] at this
          exact .inl ⟨v, e1, this⟩
        · have := hv _ (by omega) _ e4
          rw [hk] at this
          refine .inr ⟨tb', l', r', l.sz + a, l.sz + b, ?_, by omega, by omega, hv a (by omega) _ e2, hv b (by omega) _ e3, this, q⟩
          rw [e1, Nat.add_assoc, Nat.add_assoc]
      · have hk : k = l.sz + r.sz := by
          have := (List.getElem?_eq_some_iff.mp e).1
          simp only [List.length_append, List.length_singleton] at this
          omega
        subst hk
        rw [List.append_assoc, List.getElem?_append_right (by omega), hl, List.getElem?_append_right (by omega), hr] at e
        have h0 : l.sz + r.sz - l.sz - r.sz = 0 := by omega
        rw [h0, List.getElem?_cons_zero] at e
        cases e
        refine .inr ⟨tb, l, r, l.sz - 1, l.sz + r.sz - 1, ?_, by omega, by omega, ?_, ?_, ?_, h1, h2, h3⟩
        · have a1 : ((s + l.sz : Nat) : Int) - 1 = ((s + (l.sz - 1) : Nat) : Int) := by omega
          have a2 : ((s + l.sz + r.sz : Nat) : Int) - 1 = ((s + (l.sz + r.sz - 1) : Nat) : Int) := by omega
          rw [a1, a2]
        · simp only [vls]
          rw [List.append_assoc, List.getElem?_append_left (by omega)]
          exact vls_lastget l
        · simp only [vls]
          rw [List.append_assoc, List.getElem?_append_right (by omega), vl, List.getElem?_append_left (by omega)]
          have : l.sz + r.sz - 1 - l.sz = r.sz - 1 := by omega
          rw [this]
          exact vls_lastget r
        · simp only [vls]
          rw [List.append_assoc, List.getElem?_append_right (by omega), vl, List.getElem?_append_right (by omega), vr, h0]
          rfl
theorem rows_of_ok {n : Int} {t : Tr} {M : Hd} (h : TOk n t) (h1 : 1 ≤ n ∧ n ≤ 40) (hd : t.dep ≤ 40) (hsz : t.sz ≤ 199) : Wp (m_rows_of [tD t, .int n] M) (okQ fun d M1 => d = .ref M.length ∧ ∃ a b, M1 = M ++ [.lst ((rws 0 t).map rwD), a, b]) := by
  refine wp_mir rfl ?_
  unfold g_rows_of
  walk_at "ds"
  refine Wp.imp (Q := fun o => o = (Fl.nx [some (tD t), some (.int n), none], M)) ?_ ?_
  · walk_at "di"
    rw [is_integer_yes]
    walk_at "di"
    rw [if_pos h1.1]
    walk_at "di"
    rw [if_neg (by omega)]
    first | done | trivial | rfl
  rintro _ rfl
  walk_at "ds"
  refine (listed_ok h h1.1 hd hsz).ok ?_
  rintro _ _ ⟨rfl, a, b, rfl⟩
  walk_at "di"
  rw [t3a]
  walk_at "di"
  rw [List.length_map, rws_len, if_neg (by omega)]
  walk_at "di"
  exact ⟨_, _, rfl⟩
theorem tree_value_ok {n : Int} {t : Tr} {M : Hd} (h : TOk n t) (h1 : 1 ≤ n ∧ n ≤ 40) (hd : t.dep ≤ 40) (hsz : t.sz ≤ 199) : Wp (m_tree_value [tD t, .int n] M) (okQ fun d M1 => d = .int (tv t) ∧ ∃ X, M1 = M ++ X) := by
  refine wp_mir rfl ?_
  unfold g_tree_value
  walk_at "ds"
  refine (rows_of_ok h h1 hd hsz).ok ?_
  rintro _ _ ⟨rfl, a, b, rfl⟩
  dsimp only
  rw [t3a]
  walk_at "ds"
  have k0 : ∀ l, (M ++ [O.lst l] ++ [.lst ((rws 0 t).map rwD), a, b])[(M ++ [O.lst l]).length]? = some (.lst ((rws 0 t).map rwD)) := fun l => t3a
  have hlen : ∀ l, (M ++ [O.lst l]).length = (M ++ [O.lst []]).length := fun l => by simp
  refine wp_forL (fun i r M1 => ∃ x3 x4 x5, r = [some (tD t), some (.int n), some (.ref M.length), x3, x4, x5] ∧ M1 = M ++ [O.lst (((vls t).take i).map D.int)] ++ [.lst ((rws 0 t).map rwD), a, b]) ?_ ?_ ?_
  · rintro i d r M1 hd ⟨x3, x4, x5, rfl, rfl⟩
    rw [List.getElem?_map] at hd
    obtain ⟨x, hx, rfl⟩ := Option.map_eq_some_iff.mp hd
    have hi : i < t.sz := by
      have := (List.getElem?_eq_some_iff.mp hx).1
      rwa [rws_len] at this
    have hst : Still [((M ++ [O.lst []]).length, (rws 0 t).map rwD)] (M ++ [O.lst (((vls t).take i).map D.int)] ++ [.lst ((rws 0 t).map rwD), a, b]) := by
      simp only [still_one, still_nil, and_true]
      rw [← hlen (((vls t).take i).map D.int)]
      exact k0 _
    refine ⟨hst, ?_⟩
    have e0 : (M ++ [O.lst (((vls t).take i).map D.int)] ++ [.lst ((rws 0 t).map rwD), a, b])[M.length]? = some (.lst (((vls t).take i).map D.int)) := get_old get_here
    have hlv : (((vls t).take i).map D.int).length < 16777216 := by simp; omega
    have hset : ∀ l, (M ++ [O.lst (((vls t).take i).map D.int)] ++ [.lst ((rws 0 t).map rwD), a, b]).set M.length (.lst l) = M ++ [O.lst l] ++ [.lst ((rws 0 t).map rwD), a, b] := fun l => by
      rw [List.append_assoc, List.append_assoc, List.singleton_append, List.singleton_append, set_here]
    have hnx : ∀ v, (vls t)[i]? = some v → ((vls t).take i).map D.int ++ [D.int v] = ((vls t).take (i + 1)).map D.int := fun v hv => by
      rw [List.take_succ, hv, List.map_append]
      rfl
    have htl : ((vls t).take i).length = i := by rw [List.length_take, vls_len]; omega
    have hget : ∀ {j : Nat} {v : Int}, j < i → (vls t)[j]? = some v → cN ((vls t).take i) j = v := fun {j v} hj hv => by
      unfold cN
      rw [List.getD_eq_getElem?_getD, List.getElem?_take, if_pos hj, hv]
      rfl
    rcases rws_ok t 0 h i x hx with ⟨v, rfl, hv⟩ | ⟨tb, l, r, p, q, rfl, hp, hq, v1, v2, v3, b1, b2, b3⟩
    · have hnx := hnx v hv
      refine ⟨_, rfl, ?_⟩
      generalize hT : some (tD t) = T0
      unfold tD
      walk_at "di"
      rw [e0]
      walk_at "di"
      try rw [e0]
      try dsimp only
      rw [if_pos hlv, hset, hnx]
      walk_at "di"
      first | exact ⟨_, _, _, rfl⟩ | exact ⟨_, _, _, rfl, rfl⟩
    · have hnx := hnx _ v3
      refine ⟨_, rfl, ?_⟩
      rw [Nat.zero_add, Nat.zero_add]
      have c1 := tv_bd b2
      have c2 := tv_bd b3
      generalize hT : some (tD t) = T0
      have hN : tD (.node tb l r) = .tup [.str "node", tbD tb, tD l, tD r] := rfl
      rw [hN]
      walk_at "di"
      rw [if_neg (by omega)]
      walk_at "di"
      rw [e0]
      walk_at "di"
      unfold tbD
      try rw [e0]
      walk_at "di"
      rw [atI_cN (j := p) (by omega) rfl, hget hp v1]
      walk_at "di"
      rw [atI_tb b1 c1]
      walk_at "di"
      rw [e0]
      walk_at "di"
      rw [atI_cN (j := q) (by omega) rfl, hget hq v2]
      walk_at "di"
      rw [atI_row b1 c1 c2]
      walk_at "di"
      try rw [e0]
      try dsimp only
      rw [if_pos hlv, hset, hnx]
      walk_at "di"
      first | exact ⟨_, _, _, rfl⟩ | exact ⟨_, _, _, rfl, rfl⟩
  · rintro r M1 ⟨x3, x4, x5, rfl, rfl⟩
    refine ⟨?_, ?_⟩
    · simp only [still_one, still_nil, and_true]
      rw [← hlen (((vls t).take ((rws 0 t).map rwD).length).map D.int)]
      exact k0 _
    · rw [List.length_map, rws_len, ← vls_len, List.take_length]
      obtain ⟨xs, ex⟩ := vls_last t
      rw [ex, List.map_append, List.map_singleton]
      have e0 : (M ++ [O.lst (xs.map D.int ++ [D.int (tv t)])] ++ [.lst ((rws 0 t).map rwD), a, b])[M.length]? = some (.lst (xs.map D.int ++ [D.int (tv t)])) := get_old get_here
      walk_at "ds"
      rw [e0]
      walk_at "ds"
      rw [L2.atI_last]
      walk_at "ds"
      exact ⟨_, by rw [List.append_assoc]⟩
  · exact ⟨none, none, none, rfl, rfl⟩
theorem dep_sz {t : Tr} {k : Nat} (hd : t.dep ≤ k) (hk : k ≤ 7) : t.sz ≤ 199 := by
  have := sz_dep t
  have h2 : 2 ^ t.dep ≤ 2 ^ 7 := Nat.pow_le_pow_right (by decide) (by omega)
  have h3 : (2 : Nat) ^ 7 = 128 := rfl
  omega
/-! ### the law's own functions of trees -/
def transp (n : Nat) (tb : List (List Int)) : List (List Int) := (List.range n).map fun (j : Nat) => (List.range n).map fun (i : Nat) => tget tb i j
def turn (n : Nat) : Tr → Tr
  | .leaf v => .leaf v
  | .node tb l r => .node (transp n tb) (turn n r) (turn n l)
theorem transp_ok {n : Nat} {tb : List (List Int)} (h : TbOk n tb) : TbOk n (transp n tb) := by
  refine ⟨by unfold transp; simp, fun row hr => ?_⟩
  unfold transp at hr
  obtain ⟨j, hj, rfl⟩ := List.mem_map.mp hr
  have hj := List.mem_range.mp hj
  refine ⟨by simp, fun x hx => ?_⟩
  obtain ⟨i, hi, rfl⟩ := List.mem_map.mp hx
  have hi := List.mem_range.mp hi
  exact tget_bd h (by omega) (by omega)
theorem transp_get {n : Nat} {tb : List (List Int)} {i j : Int} (hi : 0 ≤ i ∧ i < n) (hj : 0 ≤ j ∧ j < n) : tget (transp n tb) j i = tget tb i j := by
  have e1 : (transp n tb).getD j.toNat [] = (List.range n).map fun (i : Nat) => tget tb i j.toNat := by
    unfold transp
    rw [List.getD_eq_getElem?_getD, List.getElem?_map, List.getElem?_range (by omega)]
    rfl
  show cN ((transp n tb).getD j.toNat []) i.toNat = _
  rw [e1]
  unfold cN
  rw [List.getD_eq_getElem?_getD, List.getElem?_map, List.getElem?_range (by omega)]
  show tget tb (i.toNat : Int) (j.toNat : Int) = _
  rw [Int.toNat_of_nonneg hi.1, Int.toNat_of_nonneg hj.1]
theorem turn_ok {n : Nat} : ∀ {t : Tr}, TOk n t → TOk n (turn n t) ∧ (turn n t).dep = t.dep ∧ tv (turn n t) = tv t
  | .leaf v, h => ⟨h, rfl, rfl⟩
  | .node tb l r, h => by
    obtain ⟨h1, h2, h3⟩ := h
    obtain ⟨l1, l2, l3⟩ := turn_ok h2
    obtain ⟨r1, r2, r3⟩ := turn_ok h3
    refine ⟨⟨transp_ok h1, r1, l1⟩, ?_, ?_⟩
    · simp only [turn, Tr.dep, l2, r2, Nat.max_comm]
    · simp only [turn, tv, l3, r3]
      exact transp_get (tv_bd h2) (tv_bd h3)
theorem rng_ok {n : Nat} {r : Ev} {M : Hd} {i : Nat} (hr : r[i]? = some (some (.int n))) (hn : n ≤ 1000) : rng1 (eVar i) r M = some (.ok (intsD 0 n, []) M) := by
  unfold rng1 eVar
  rw [hr]
  dsimp only [bnd_ok]
  rw [if_sm (by omega), Int.toNat_natCast]
theorem filt_true {l : List D} : (l.filter fun _ => true) = l := by simp
theorem tuple_ref {M : Hd} {i : Nat} {ds : List D} (h : M[i]? = some (.lst ds)) : tupleG (.ref i) M = some (.ok (.tup ds) M) := by
  unfold tupleG
  dsimp only
  rw [h]
theorem turned_tb {n : Nat} {tb : List (List Int)} {l r : Tr} {M : Hd} {x2 : Option D} (h : TbOk n tb) (hn : n ≤ 1000) :
    Wp (eUn tupleG (eLc (rng1 (eVar 1)) (.nm 4) tYes (eUn tupleG (eLc (rng1 (eVar 1)) (.nm 3) tYes (eOp ixG (eOp ixG (eOp ixG (eVar 0) (eC (.int 1))) (eVar 3)) (eVar 4)) [3])) [4]) [some (tD (.node tb l r)), some (.int n), x2, none, none] M) (okQ fun d M1 => d = tbD (transp n tb) ∧ ∃ X, M1 = M ++ X) := by
  unfold eUn
  rw [wp_bnd]
  refine (wp_comp (keep := fun _ => true) (val := fun d => match d with | .int j => .tup ((List.range n).map fun (i : Nat) => D.int (tget tb i j)) | d => d) (ds := intsD 0 n) (gs := []) (M := M) (rng_ok rfl hn) (fun X => by simp) (by simp; omega) ?_).ok ?_
  · intro d hd X
    obtain ⟨j, hj0⟩ := List.getElem?_of_mem hd
    obtain ⟨hj, rfl⟩ := ints_get hj0
    rw [Int.zero_add]
    refine ⟨_, rfl, ?_⟩
    unfold tYes
    rw [wp_some]
    refine ⟨rfl, [], by simp, fun _ => ?_⟩
    rw [wp_bnd]
    refine (wp_comp (keep := fun _ => true) (val := fun d => match d with | .int i => .int (tget tb i j) | d => d) (ds := intsD 0 n) (gs := []) (M := M ++ X) (rng_ok rfl hn) (fun X => by simp) (by simp; omega) ?_).ok ?_
    · intro d hd X2
      obtain ⟨i, hi0⟩ := List.getElem?_of_mem hd
      obtain ⟨hi, rfl⟩ := ints_get hi0
      rw [Int.zero_add]
      refine ⟨_, rfl, ?_⟩
      try unfold tYes
      rw [wp_some]
      refine ⟨rfl, [], by simp, fun _ => ?_⟩
      have hN : tD (.node tb l r) = .tup [.str "node", tbD tb, tD l, tD r] := rfl
      rw [hN]
      unfold tbD
      walk_at "sx"
      rw [atI_tb h (by omega)]
      walk_at "sx"
      rw [atI_row h (by omega) (by omega)]
      walk_at "sx"
      exact ⟨[], by simp⟩
    rintro _ _ ⟨rfl, Z, rfl⟩
    rw [filt_true]
    dsimp only
    rw [tuple_ref get_here, wp_some]
    refine ⟨?_, .lst ((intsD 0 n).map fun d => match d with | .int i => .int (tget tb i j) | d => d) :: Z, by simp⟩
    unfold intsD
    rw [List.map_map]
    congr 1
    apply List.map_congr_left
    intro i _
    simp only [Function.comp, Int.zero_add]
  rintro _ _ ⟨rfl, Z, rfl⟩
  rw [filt_true]
  dsimp only
  rw [tuple_ref get_here, wp_some]
  refine ⟨?_, _, rfl⟩
  unfold intsD tbD transp
  rw [List.map_map, List.map_map]
  congr 1
  apply List.map_congr_left
  intro j _
  simp only [Function.comp, Int.zero_add, rowD, List.map_map]
  first | done | rfl
/-! ### primes -/
def Prm (n : Int) : Prop := 2 ≤ n ∧ ∀ d, 2 ≤ d → d * d ≤ n → n % d ≠ 0
/-- a bool that says Q, the heap as it was -/
def bq (M : Hd) (Q : Prop) : Rs D → Prop := okQ fun d M1 => M1 = M ∧ ∃ b, d = .bl b ∧ (b = true ↔ Q)
theorem even_of {n d : Int} (hd : d % 2 = 0) (h : n % d = 0) : n % 2 = 0 := by
  have a : (2 : Int) ∣ d := Int.dvd_of_emod_eq_zero hd
  exact Int.emod_eq_zero_of_dvd (Int.dvd_trans a (Int.dvd_of_emod_eq_zero h))
theorem sq_ge {d n : Int} (h : 2 ≤ d) (h2 : d * d ≤ n) : 2 * d ≤ n := Int.le_trans (Int.mul_le_mul_of_nonneg_right h (by omega)) h2
theorem sq_le {d e : Int} (h : d ≤ e) (h2 : 0 ≤ d) : d * d ≤ e * e := Int.mul_le_mul h h h2 (by omega)
theorem is_prime_ok {n : Int} {M : Hd} (h : n < 2000000000) : Wp (m_is_prime [.int n] M) (bq M (Prm n)) := by
  refine wp_mir rfl ?_
  unfold g_is_prime bq
  walk_at "di"
  split
  · exact ⟨false, rfl, by simp [Prm]; omega⟩
  · walk_at "di"
    split
    · walk_at "di"
      refine ⟨_, rfl, ?_⟩
      rename_i h2 h0
      simp only [decide_eq_true_eq, Prm]
      constructor
      · rintro rfl
        refine ⟨by omega, fun d h1 h3 => ?_⟩
        have : 2 * 2 ≤ d * d := Int.mul_le_mul h1 h1 (by decide) (by omega)
        omega
      · rintro ⟨h1, h3⟩
        apply Classical.byContradiction
        intro hne
        exact h3 2 (by omega) (by omega) h0
    · walk_at "di"
      rename_i h2 h0
      refine wp_while (n := (n + 2).toNat) (fun k r M1 => ∃ d, r = [some (.int n), some (.int d)] ∧ M1 = M ∧ 3 ≤ d ∧ d % 2 = 1 ∧ d ≤ n + 2 ∧ k + d = n + 5 ∧ ∀ e, 2 ≤ e → e < d → n % e ≠ 0) ?_ ?_
      · rintro k r M1 ⟨d, rfl, rfl, h3, hodd, hdn, hk, hno⟩
        walk_at "di"
        rw [mulG_l (by omega)]
        walk_at "di"
        refine ⟨fun hf => ?_, fun ht => ?_⟩
        · refine ⟨true, rfl, fun _ => ⟨by omega, fun e h1 he => ?_⟩, fun _ => rfl⟩
          apply hno e h1
          apply Classical.byContradiction
          intro hge
          have := sq_le (Int.not_lt.mp hge) (by omega)
          omega
        · have hdd := sq_ge (by omega) ht
          rw [modG_ok (by omega)]
          walk_at "di"
          split
          · rename_i hz
            refine ⟨false, rfl, by simp, fun hp => ?_⟩
            exact (hp.2 d (by omega) ht hz).elim
          · rename_i hz
            refine ⟨k - 2, by omega, d + 2, rfl, by omega, by omega, by omega, by omega, fun e h1 he => ?_⟩
            by_cases h5 : e < d
            · exact hno e h1 h5
            · by_cases h6 : e = d
              · subst h6; exact hz
              · have h7 : e % 2 = 0 := by omega
                exact fun h8 => h0 (even_of h7 h8)
      · refine ⟨3, rfl, rfl, by decide, by decide, by omega, by omega, fun e h1 h3 => ?_⟩
        have : e = 2 := by omega
        subst this
        exact h0
/-! ### least primes -/
theorem prm83 : Prm 83 := by
  refine ⟨by decide, fun d h1 h2 => ?_⟩
  have h3 : d ≤ 9 := by
    rcases Int.lt_or_le 9 d with h | h
    · have : 10 * 10 ≤ d * d := Int.mul_le_mul (by omega) (by omega) (by decide) (by omega)
      omega
    · exact h
  have h4 : d = 2 ∨ d = 3 ∨ d = 4 ∨ d = 5 ∨ d = 6 ∨ d = 7 ∨ d = 8 ∨ d = 9 := by omega
  rcases h4 with rfl | rfl | rfl | rfl | rfl | rfl | rfl | rfl <;> decide
theorem least_prm : ∀ (k : Nat) (s : Int), 2 ≤ s → s ≤ 83 → (83 - s).toNat = k → ∃ p, s ≤ p ∧ p ≤ 83 ∧ Prm p ∧ ∀ q, s ≤ q → q < p → ¬ Prm q := by
  intro k
  induction k with
  | zero =>
    intro s h1 h2 h3
    have : s = 83 := by omega
    subst this
    exact ⟨83, by omega, by omega, prm83, fun q h1 h2 => by omega⟩
  | succ k ih =>
    intro s h1 h2 h3
    by_cases hp : Prm s
    · exact ⟨s, by omega, by omega, hp, fun q h1 h2 => by omega⟩
    · obtain ⟨p, a, b, c, d⟩ := ih (s + 1) (by omega) (by omega) (by omega)
      refine ⟨p, by omega, b, c, fun q h1 h2 => ?_⟩
      by_cases hq : q = s
      · subst hq; exact hp
      · exact d q (by omega) h2
theorem prm_iff {m : Int} (hm : 2 ≤ m) : (∀ k, 2 ≤ k → k < m → m % k ≠ 0) ↔ Prm m := by
  constructor
  · intro h
    refine ⟨hm, fun d h1 h2 => h d h1 ?_⟩
    have : 2 * d ≤ d * d := Int.mul_le_mul_of_nonneg_right h1 (by omega)
    omega
  · rintro ⟨_, h⟩ k h1 h2 h3
    have e : m = k * (m / k) := by
      have := Int.mul_ediv_add_emod m k
      omega
    generalize m / k = q at e
    by_cases hkk : k * k ≤ m
    · exact h k h1 hkk h3
    · have hq1 : 2 ≤ q := by
        rcases Int.lt_or_le q 2 with hq | hq
        · exfalso
          have h4 : k * q ≤ k * 1 := Int.mul_le_mul_of_nonneg_left (by omega) (by omega)
          omega
        · exact hq
      have hqk : q < k := by
        rcases Int.lt_or_le q k with hq | hq
        · exact hq
        · exfalso
          have : k * k ≤ k * q := Int.mul_le_mul_of_nonneg_left hq (by omega)
          omega
      have hqq : q * q ≤ m := by
        have : q * q ≤ k * q := Int.mul_le_mul_of_nonneg_right (by omega) (by omega)
        omega
      refine h q hq1 hqq ?_
      rw [e]
      exact Int.mul_emod_left k q
theorem max3 {v : Int} : (if 2 * v > 3 then 2 * v else 3) = max 3 (2 * v) := by split <;> omega
theorem prime_of_ok {v p : Int} {M : Hd} (hv : 1 ≤ v ∧ v ≤ 40) (h1 : max 3 (2 * v) ≤ p) (h2 : p ≤ 83) (h3 : Prm p) (h4 : ∀ q, max 3 (2 * v) ≤ q → q < p → ¬ Prm q) : m_prime_of [.int v] M = some (.ok (.int p) M) := by
  refine wp_eq ?_
  refine wp_mir rfl ?_
  unfold g_prime_of
  walk_at "ds"
  refine Wp.imp (Q := fun o => o = (Fl.nx [some (.int v), none], M)) ?_ ?_
  · walk_at "di"
    rw [is_integer_yes]
    walk_at "di"
    rw [if_pos hv.1]
    walk_at "di"
    rw [if_neg (by omega)]
    first | done | trivial | rfl
  rintro _ rfl
  walk_at "ds"
  rw [max3]
  refine wp_while (n := (p - max 3 (2 * v)).toNat) (fun w r M1 => ∃ c, r = [some (.int v), some (.int c)] ∧ M1 = M ∧ max 3 (2 * v) ≤ c ∧ c ≤ p ∧ w = (p - c).toNat) ?_ ⟨_, rfl, rfl, Int.le_refl _, h1, rfl⟩
  rintro w r M1 ⟨c, rfl, rfl, c1, c2, rfl⟩
  walk_at "ds"
  refine (is_prime_ok (by omega)).imp ?_
  intro o ho
  cases o with
  | er c M => exact ho.elim
  | ok d M2 =>
    obtain ⟨rfl, b, rfl, hb⟩ := ho
    walk_at "ds"
    cases b with
    | true =>
      refine ⟨fun _ => ?_, fun h => by simp at h⟩
      walk_at "ds"
      have : c = p := by
        rcases Int.lt_or_le c p with h | h
        · exact (h4 c c1 h (hb.mp rfl)).elim
        · omega
      rw [this]
    | false =>
      refine ⟨fun h => by simp at h, fun _ => ?_⟩
      have hne : c ≠ p := fun e => by
        have := hb.mpr (e ▸ h3)
        cases this
      walk_at "ds"
      exact ⟨(p - (c + 1)).toNat, by omega, c + 1, rfl, by omega, by omega, rfl⟩
theorem rng2_ok {a b : Int} {f g : EF} {r : Ev} {M : Hd} (hf : f r M = some (.ok (.int a) M)) (hg : g r M = some (.ok (.int b) M)) (ha : -1000 ≤ a ∧ a ≤ 1000) (hb : -1000 ≤ b ∧ b ≤ 1000) : rng2 f g r M = some (.ok (intsD a (b - a).toNat, []) M) := by
  unfold rng2
  rw [hf]
  dsimp only [bnd_ok]
  rw [hg]
  dsimp only [bnd_ok]
  exact if_pos ⟨⟨by omega, by omega⟩, ⟨by omega, by omega⟩⟩
/-! ### drawn trees -/
theorem table_ok {M R : Hd} {n : Nat} (h : Dr M R) (hn : 1 ≤ n ∧ n ≤ 40) : Wp (m__law_table [.ref 1, .int n] M) (okQ fun d M1 => ∃ tb X, d = tbD tb ∧ TbOk n tb ∧ Dr M1 (R ++ X)) := by
  refine wp_mir rfl ?_
  unfold g__law_table
  walk_at "ds"
  refine (draw_ok h).ok ?_
  rintro _ M1 ⟨n1, rfl, h0, h1, hD⟩
  walk_at "ds"
  rw [if_smP (by omega), Int.toNat_natCast, hD.len]
  have hD := hD.app [O.lst (([] : List (List Int)).map rowD)]
  generalize n1 % 4 = kind
  refine wp_forL (fun i r M1 => ∃ (rows : List (List Int)) (X : Hd) (x4 x5 x6 : Option D), r = [some (.ref 1), some (.int n), some (.int kind), some (.ref (R.length + 2)), x4, x5, x6] ∧ rows.length = i ∧ (∀ row ∈ rows, (row.length : Int) = n ∧ ∀ x ∈ row, 0 ≤ x ∧ x < (n : Int)) ∧ Dr M1 (R ++ .lst (rows.map rowD) :: X)) ?_ ?_ ?_
  · rintro i d r M2 hd ⟨rows, X, x4, x5, x6, rfl, hrl, hrw, hD⟩
    obtain ⟨hi, rfl⟩ := ints_get hd
    rw [Int.zero_add]
    refine ⟨by simp, _, rfl, ?_⟩
    walk_at "ds"
    have hl := hD.len
    have hD := hD.app [O.lst (([] : List Int).map D.int)]
    have gR : (R ++ .lst (rows.map rowD) :: X)[R.length]? = some (.lst (rows.map rowD)) := get_mid
    have gR2 : ∀ Z, ((R ++ .lst (rows.map rowD) :: X) ++ Z).set R.length (.lst (rows.map rowD)) = (R ++ .lst (rows.map rowD) :: X) ++ Z := fun Z => by simp
    have hsetR : ∀ Z L, ((R ++ .lst (rows.map rowD) :: X) ++ Z).set R.length (.lst L) = R ++ .lst L :: (X ++ Z) := fun Z L => by
      rw [List.append_assoc, List.cons_append, set_mid]
    generalize R ++ .lst (rows.map rowD) :: X = R1 at hD hl gR hsetR
    rw [if_smP (by omega), Int.toNat_natCast, hl]
    refine wp_forL (fun j r M1 => ∃ (row : List Int) (x6 : Option D), r = [some (.ref 1), some (.int n), some (.int kind), some (.ref (R.length + 2)), some (.int i), some (.ref (R1.length + 2)), x6] ∧ row.length = j ∧ (∀ x ∈ row, 0 ≤ x ∧ x < (n : Int)) ∧ Dr M1 (R1 ++ [.lst (row.map D.int)])) ?_ ?_ ?_
    · rintro j d r M3 hd ⟨row, x6, rfl, hrl2, hrb, hD⟩
      obtain ⟨hj, rfl⟩ := ints_get hd
      rw [Int.zero_add]
      refine ⟨by simp, _, rfl, ?_⟩
      have hlt : (row.map D.int).length < 16777216 := by rw [List.length_map]; omega
      have fin : ∀ {M3 : Hd} (v : Int), Dr M3 (R1 ++ [.lst (row.map D.int)]) → 0 ≤ v ∧ v < (n : Int) → ∃ (row2 : List Int) (x6 : Option D), [some (.ref 1), some (.int n), some (.int kind), some (.ref (R.length + 2)), some (.int i), some (.ref (R1.length + 2)), some (.int j)] = [some (.ref 1), some (.int n), some (.int kind), some (.ref (R.length + 2)), some (.int i), some (.ref (R1.length + 2)), x6] ∧ row2.length = j + 1 ∧ (∀ x ∈ row2, 0 ≤ x ∧ x < (n : Int)) ∧ Dr (M3.set (R1.length + 2) (.lst (row.map D.int ++ [.int v]))) (R1 ++ [.lst (row2.map D.int)]) := by
        intro M3 v hD hv
        have hD := hD.set R1.length (.lst (row.map D.int ++ [.int v]))
        rw [set_mid] at hD
        refine ⟨row ++ [v], _, rfl, by simp; omega, fun x hx => ?_, by rw [List.map_append]; exact hD⟩
        rcases List.mem_append.mp hx with hx | hx
        · exact hrb x hx
        · rw [List.mem_singleton] at hx
          subst hx
          exact hv
      have g1 : M3[R1.length + 2]? = some (.lst (row.map D.int)) := by rw [hD.get]; exact get_app
      walk_at "di"
      split
      · walk_at "di"
        rw [g1]
        walk_at "di"
        rw [modG_ok (by omega)]
        walk_at "di"
        try rw [g1]
        try dsimp only
        rw [if_pos hlt]
        walk_at "di"
        exact fin _ hD ⟨Int.emod_nonneg _ (by omega), Int.emod_lt_of_pos _ (by omega)⟩
      · split
        · walk_at "di"
          rw [g1]
          walk_at "di"
          rw [mulG_l (by omega)]
          walk_at "di"
          rw [modG_ok (by omega)]
          walk_at "di"
          try rw [g1]
          try dsimp only
          rw [if_pos hlt]
          walk_at "di"
          exact fin _ hD ⟨Int.emod_nonneg _ (by omega), Int.emod_lt_of_pos _ (by omega)⟩
        · walk_at "di"
          rw [g1]
          walk_at "di"
          refine (draw_ok hD).ok ?_
          rintro _ M4 ⟨n2, rfl, h2, h3, hD⟩
          have g1 : M4[R1.length + 2]? = some (.lst (row.map D.int)) := by rw [hD.get]; exact get_app
          walk_at "di"
          rw [modG_ok (by omega)]
          walk_at "di"
          rw [g1]
          dsimp only
          rw [if_pos hlt]
          walk_at "di"
          exact fin _ hD ⟨Int.emod_nonneg _ (by omega), Int.emod_lt_of_pos _ (by omega)⟩
    · rintro r M3 ⟨row, x6, rfl, hrl2, hrb, hD⟩
      rw [ints_length] at hrl2
      refine ⟨by simp, ?_⟩
      have g1 : M3[R1.length + 2]? = some (.lst (row.map D.int)) := by rw [hD.get]; exact get_app
      have g2 : M3[R.length + 2]? = some (.lst (rows.map rowD)) := by rw [hD.get]; exact get_app_l gR
      walk_at "ds"
      rw [g2]
      dsimp only
      rw [tuple_ref g1]
      walk_at "ds"
      try rw [g2]
      try dsimp only
      rw [if_pos (by rw [List.length_map]; omega)]
      walk_at "ds"
      have hD := hD.set R.length (.lst (rows.map rowD ++ [rowD row]))
      rw [hsetR] at hD
      refine ⟨rows ++ [row], _, _, _, _, rfl, by simp; omega, fun w hw => ?_, by rw [List.map_append]; exact hD⟩
      rcases List.mem_append.mp hw with hw | hw
      · exact hrw w hw
      · rw [List.mem_singleton] at hw
        subst hw
        exact ⟨by omega, hrb⟩
    · exact ⟨[], x6, rfl, rfl, (fun _ h => nomatch h), hD⟩
  · rintro r M2 ⟨rows, X, x4, x5, x6, rfl, hrl, hrw, hD⟩
    rw [ints_length] at hrl
    refine ⟨by simp, ?_⟩
    have g1 : M2[R.length + 2]? = some (.lst (rows.map rowD)) := by rw [hD.get]; exact get_mid
    walk_at "ds"
    rw [tuple_ref g1]
    walk_at "ds"
    exact ⟨rows, _, rfl, ⟨by omega, hrw⟩, hD⟩
  · exact ⟨[], [], none, none, none, rfl, rfl, (fun _ h => nomatch h), hD⟩
theorem tree_ok {n : Nat} (hn : 1 ≤ n ∧ n ≤ 40) : ∀ (k d : Nat) (M R : Hd) (q : Nat) (lf : Int), 1 ≤ d → d ≤ k → Dr M R → R[q]? = some (.lst [.int lf]) →
    Wp (r__law_tree k [.ref 1, .int n, .int d, .ref (q + 2)] M) (okQ fun x M1 => ∃ (t : Tr) (R2 : Hd) (lf2 : Int), x = tD t ∧ TOk n t ∧ t.dep ≤ d ∧ Dr M1 R2 ∧ R2[q]? = some (.lst [.int lf2]))
  | 0, d, M, R, q, lf, h1, h2, _, _ => by omega
  | k + 1, d, M, R, q, lf, h1, h2, hD, gq => by
    show Wp (mir N__law_tree.length P__law_tree.length (g__law_tree (r__law_tree k)) [.ref 1, .int n, .int d, .ref (q + 2)] M) _
    refine wp_mir rfl ?_
    unfold g__law_tree
    have kq : M[q + 2]? = some (.lst [.int lf]) := by rw [hD.get]; exact gq
    have leaf : ∀ {M : Hd} {Q : Fl × Hd → Prop}, Dr M R → (∀ v M1, 0 ≤ v ∧ v < (n : Int) → Dr M1 R → Q (Fl.rt (tD (.leaf v)), M1)) → Wp (sRet (eTup (aCons (eC (.str "leaf")) (aCons (eOp modG (eCall m__law_draw (aCons (eVar 0) aNil)) (eVar 1)) aNil))) [some (.ref 1), some (.int n), some (.int d), some (.ref (q + 2)), none] M) Q := by
      intro M Q hD hQ
      walk_at "ds"
      refine (draw_ok hD).ok ?_
      rintro _ M2 ⟨n2, rfl, h2, h3, hD⟩
      walk_at "ds"
      rw [modG_ok (by omega)]
      walk_at "ds"
      exact hQ _ _ ⟨Int.emod_nonneg _ (by omega), Int.emod_lt_of_pos _ (by omega)⟩ hD
    have hst : startD N__law_tree.length [.ref 1, .int n, .int d, .ref (q + 2)] = [some (.ref 1), some (.int n), some (.int d), some (.ref (q + 2)), none] := rfl
    rw [hst, wp_seq]
    refine Wp.imp (Q := fun o => (∃ v M1, (0 ≤ v ∧ v < (n : Int)) ∧ Dr M1 R ∧ o = (Fl.rt (tD (.leaf v)), M1)) ∨ (2 ≤ d ∧ ∃ M1, Dr M1 R ∧ o = (Fl.nx [some (.ref 1), some (.int n), some (.int d), some (.ref (q + 2)), none], M1))) ?_ ?_
    · unfold sIf
      rw [wp_exB]
      simp only [tOr, tVal, eOp, eVar, eC, wp_bnd, List.getElem?_cons_zero, List.getElem?_cons_succ, leG_int, bOf, wp_some, wp_ite, decide_eq_true_eq]
      by_cases hd1 : (d : Int) ≤ 1
      · simp only [if_pos hd1, if_true]
        exact leaf hD fun v M1 a b => .inl ⟨v, M1, a, b, rfl⟩
      · simp only [if_neg hd1]
        rw [ixG_ref kq]
        simp only [atI_c0, pr_some, wp_some, ltG_int, bOf, decide_eq_true_eq]
        by_cases hl2 : lf < 2
        · simp only [if_pos hl2, if_true]
          exact leaf hD fun v M1 a b => .inl ⟨v, M1, a, b, rfl⟩
        · simp only [if_neg hl2]
          simp only [eCall, aCons, aNil, eVar, wp_bnd, wp_some, List.getElem?_cons_zero]
          refine (draw_ok hD).ok ?_
          rintro _ M2 ⟨n2, rfl, h2, h3, hD⟩
          dsimp only
          rw [modG_ok (by decide), wp_some]
          simp only [eqG_int, bOf, wp_some, decide_eq_true_eq]
          by_cases h5 : n2 % 5 = 0
          · simp only [if_pos h5]
            exact leaf hD fun v M1 a b => .inl ⟨v, M1, a, b, rfl⟩
          · simp only [if_neg h5]
            unfold sNil
            rw [wp_some]
            exact .inr ⟨by omega, M2, hD, rfl⟩
    rintro _ (⟨v, M1, a, b, rfl⟩ | ⟨hd2, M1, hD, rfl⟩)
    · rw [nxQ_rt, fnQ_rt]
      exact ⟨.leaf v, R, lf, rfl, a, h1, b, gq⟩
    · clear leaf kq hst
      have kq : M1[q + 2]? = some (.lst [.int lf]) := by rw [hD.get]; exact gq
      walk_at "ds"
      rw [kq]
      dsimp only
      rw [atI_c0]
      walk_at "ds"
      rw [kq]
      dsimp only
      have ix0 : ixN [D.int lf].length 0 = some 0 := rfl
      rw [ix0]
      walk_at "ds"
      have hD := hD.set q (.lst [.int (lf - 2)])
      have gq := get_set (o2 := .lst [.int (lf - 2)]) gq
      have hdd : (d : Int) - 1 = ((d - 1 : Nat) : Int) := by omega
      rw [hdd]
      refine (tree_ok hn k (d - 1) _ _ q _ (by omega) (by omega) hD gq).ok ?_
      rintro _ M3 ⟨t1, R3, lf3, rfl, ok1, dp1, hD, gq⟩
      walk_at "ds"
      refine (table_ok hD hn).ok ?_
      rintro _ M4 ⟨tb, X, rfl, tok, hD⟩
      have gq := get_app_l (X := X) gq
      walk_at "ds"
      try rw [hdd]
      refine (tree_ok hn k (d - 1) _ _ q _ (by omega) (by omega) hD gq).ok ?_
      rintro _ M5 ⟨t2, R5, lf5, rfl, ok2, dp2, hD, gq⟩
      walk_at "ds"
      exact ⟨.node tb t1 t2, R5, lf5, rfl, ⟨tok, ok1, ok2⟩, by simp only [Tr.dep]; omega, hD, gq⟩
/-! ### subtrees and costs -/
def cstT (p : Int) : Tr → Int
  | .leaf _ => 1
  | .node _ l r => (p - 1) * (2 * (cstT p l + cstT p r) + 5)
def subs : Tr → List Tr
  | .leaf v => [.leaf v]
  | .node tb l r => subs l ++ subs r ++ [.node tb l r]
theorem subs_len : ∀ (t : Tr), (subs t).length = t.sz
  | .leaf _ => rfl
  | .node tb l r => by
    simp only [subs, List.length_append, List.length_singleton, Tr.sz]
    rw [subs_len l, subs_len r]
theorem subs_last : ∀ (t : Tr), ∃ xs, subs t = xs ++ [t]
  | .leaf v => ⟨[], rfl⟩
  | .node tb l r => ⟨subs l ++ subs r, rfl⟩
theorem subs_lastget (t : Tr) : (subs t)[t.sz - 1]? = some t := by
  obtain ⟨xs, e⟩ := subs_last t
  have := subs_len t
  rw [e, List.length_append, List.length_singleton] at this
  rw [e, ← this]
  simp
theorem subs_ok {n : Int} : ∀ (t : Tr), TOk n t → ∀ u ∈ subs t, TOk n u
  | .leaf v, h, u, hu => by
    simp only [subs, List.mem_singleton] at hu
    subst hu
    exact h
  | .node tb l r, h, u, hu => by
    simp only [subs, List.mem_append, List.mem_singleton] at hu
    rcases hu with (hu | hu) | rfl
    · exact subs_ok l h.2.1 u hu
    · exact subs_ok r h.2.2 u hu
    · exact h
theorem subs_sz : ∀ (t : Tr), ∀ u ∈ subs t, u.sz ≤ t.sz
  | .leaf v, u, hu => by
    simp only [subs, List.mem_singleton] at hu
    subst hu
    exact Nat.le_refl _
  | .node tb l r, u, hu => by
    simp only [subs, List.mem_append, List.mem_singleton] at hu
    rcases hu with (hu | hu) | rfl
    · have := subs_sz l u hu
      simp only [Tr.sz]
      omega
    · have := subs_sz r u hu
      simp only [Tr.sz]
      omega
    · exact Nat.le_refl _
def RowS (s : Nat) (us : List Tr) (k : Nat) (x : Row) : Prop :=
  (∃ v, x = ⟨.leaf v, -1, -1⟩ ∧ us[k]? = some (.leaf v)) ∨ ∃ tb l r, ∃ a b : Nat, x = ⟨.node tb l r, (s + a : Nat), (s + b : Nat)⟩ ∧ a < k ∧ b < k ∧ us[a]? = some l ∧ us[b]? = some r ∧ us[k]? = some (.node tb l r)
theorem rws_subs : ∀ (t : Tr) (s : Nat) (k : Nat) x, (rws s t)[k]? = some x → RowS s (subs t) k x
  | .leaf v, s, k, x, e => by
    have hk : k = 0 := by
      have := (List.getElem?_eq_some_iff.mp e).1
      simp only [rws, List.length_singleton] at this
      omega
    subst hk
    simp only [rws, List.getElem?_cons_zero] at e
    cases e
    exact .inl ⟨v, rfl, rfl⟩
  | .node tb l r, s, k, x, e => by
    simp only [rws] at e
    have hl := rws_len l s
    have hr := rws_len r (s + l.sz)
    have vl := subs_len l
    have vr := subs_len r
    have pl := sz_pos l
    have pr := sz_pos r
    by_cases hk1 : k < l.sz
    · rw [List.append_assoc, List.getElem?_append_left (by omega)] at e
      have hv : ∀ i, i < l.sz → ∀ y, (subs l)[i]? = some y → (subs (.node tb l r))[i]? = some y := fun i hi y hy => by
        simp only [subs]
        rw [List.append_assoc, List.getElem?_append_left (by omega)]
        exact hy
      rcases rws_subs l s k x e with ⟨v, e1, e2⟩ | ⟨tb', l', r', a, b, e1, ha, hb, e2, e3, e4⟩
      · exact .inl ⟨v, e1, hv k hk1 _ e2⟩
      · exact .inr ⟨tb', l', r', a, b, e1, ha, hb, hv a (by omega) _ e2, hv b (by omega) _ e3, hv k hk1 _ e4⟩
    · by_cases hk2 : k < l.sz + r.sz
      · rw [List.append_assoc, List.getElem?_append_right (by omega), hl, List.getElem?_append_left (by omega)] at e
        have hv : ∀ i, i < r.sz → ∀ y, (subs r)[i]? = some y → (subs (.node tb l r))[l.sz + i]? = some y := fun i hi y hy => by
          simp only [subs]
          rw [List.append_assoc, List.getElem?_append_right (by omega), vl, List.getElem?_append_left (by omega), Nat.add_sub_cancel_left]
          exact hy
        have hk : l.sz + (k - l.sz) = k := by omega
        rcases rws_subs r (s + l.sz) (k - l.sz) x e with ⟨v, e1, e2⟩ | ⟨tb', l', r', a, b, e1, ha, hb, e2, e3, e4⟩
        · have := hv _ (by omega) _ e2
          rw [hk] at this
          exact .inl ⟨v, e1, this⟩
        · have := hv _ (by omega) _ e4
          rw [hk] at this
          refine .inr ⟨tb', l', r', l.sz + a, l.sz + b, ?_, by omega, by omega, hv a (by omega) _ e2, hv b (by omega) _ e3, this⟩
          rw [e1, Nat.add_assoc, Nat.add_assoc]
      · have hk : k = l.sz + r.sz := by
          have := (List.getElem?_eq_some_iff.mp e).1
          simp only [List.length_append, List.length_singleton] at this
          omega
        subst hk
        rw [List.append_assoc, List.getElem?_append_right (by omega), hl, List.getElem?_append_right (by omega), hr] at e
        have h0 : l.sz + r.sz - l.sz - r.sz = 0 := by omega
        rw [h0, List.getElem?_cons_zero] at e
        cases e
        refine .inr ⟨tb, l, r, l.sz - 1, l.sz + r.sz - 1, ?_, by omega, by omega, ?_, ?_, ?_⟩
        · have a1 : ((s + l.sz : Nat) : Int) - 1 = ((s + (l.sz - 1) : Nat) : Int) := by omega
          have a2 : ((s + l.sz + r.sz : Nat) : Int) - 1 = ((s + (l.sz + r.sz - 1) : Nat) : Int) := by omega
          rw [a1, a2]
        · simp only [subs]
          rw [List.append_assoc, List.getElem?_append_left (by omega)]
          exact subs_lastget l
        · simp only [subs]
          rw [List.append_assoc, List.getElem?_append_right (by omega), vl, List.getElem?_append_left (by omega)]
          have : l.sz + r.sz - 1 - l.sz = r.sz - 1 := by omega
          rw [this]
          exact subs_lastget r
        · simp only [subs]
          rw [List.append_assoc, List.getElem?_append_right (by omega), vl, List.getElem?_append_right (by omega), vr, h0]
          rfl
/-- the least prime for n values -/
structure LP (n p : Int) : Prop where
  h1 : max 3 (2 * n) ≤ p
  h2 : p ≤ 83
  h3 : Prm p
  h4 : ∀ q, max 3 (2 * n) ≤ q → q < p → ¬ Prm q
theorem lp_ex {n : Int} (hn : 1 ≤ n ∧ n ≤ 40) : ∃ p, LP n p := by
  obtain ⟨p, p1, p2, p3, p4⟩ := least_prm _ (max 3 (2 * n)) (by omega) (by omega) rfl
  exact ⟨p, p1, p2, p3, p4⟩
theorem prime_of_lp {n p : Int} {M : Hd} (hn : 1 ≤ n ∧ n ≤ 40) (h : LP n p) : m_prime_of [.int n] M = some (.ok (.int p) M) := prime_of_ok hn h.h1 h.h2 h.h3 h.h4
theorem cst_pos {p : Int} (hp : 3 ≤ p) : ∀ (t : Tr), 1 ≤ cstT p t
  | .leaf _ => by show (1 : Int) ≤ 1; omega
  | .node tb l r => by
    have h1 := cst_pos hp l
    have h2 := cst_pos hp r
    show 1 ≤ (p - 1) * (2 * (cstT p l + cstT p r) + 5)
    have : 1 * (2 * (cstT p l + cstT p r) + 5) ≤ (p - 1) * (2 * (cstT p l + cstT p r) + 5) := Int.mul_le_mul_of_nonneg_right (by omega) (by omega)
    omega
theorem tree_cost_ok {n p : Int} {t : Tr} {M : Hd} (h : TOk n t) (h1 : 1 ≤ n ∧ n ≤ 40) (hd : t.dep ≤ 40) (hsz : t.sz ≤ 199) (hp : LP n p) : Wp (m_tree_cost [tD t, .int n] M) (okQ fun d M1 => d = .int (cstT p t) ∧ ∃ X, M1 = M ++ X) := by
  have hp3 : 3 ≤ p ∧ p ≤ 83 := ⟨by have := hp.h1; omega, hp.h2⟩
  refine wp_mir rfl ?_
  unfold g_tree_cost
  walk_at "ds"
  refine (rows_of_ok h h1 hd hsz).ok ?_
  rintro _ _ ⟨rfl, a, b, rfl⟩
  walk_at "ds"
  rw [prime_of_lp h1 hp]
  walk_at "ds"
  have gR : (M ++ [O.lst ((rws 0 t).map rwD), a, b])[M.length]? = some (.lst ((rws 0 t).map rwD)) := get_here
  have hM0 : ∃ X, M ++ [O.lst ((rws 0 t).map rwD), a, b] = M ++ X := ⟨_, rfl⟩
  generalize M ++ [O.lst ((rws 0 t).map rwD), a, b] = M0 at gR hM0 ⊢
  have hcl : ((subs t).map (cstT p)).length = t.sz := by rw [List.length_map, subs_len]
  have hgc : ∀ {j : Nat} {u : Tr}, (subs t)[j]? = some u → ((subs t).map (cstT p))[j]? = some (cstT p u) := fun {j u} e => by
    rw [List.getElem?_map, e]
    rfl
  generalize hcs : (subs t).map (cstT p) = cs at hcl hgc
  rw [show (M0 ++ [O.lst []])[M.length]? = _ from get_old gR]
  walk_at "ds"
  refine wp_forL (fun i r M1 => ∃ x5 x6 x7, r = [some (tD t), some (.int n), some (.ref M.length), some (.int p), some (.ref M0.length), x5, x6, x7] ∧ M1 = M0 ++ [O.lst ((cs.take i).map D.int)]) ?_ ?_ ?_
  · rintro i d r M1 hd ⟨x5, x6, x7, rfl, rfl⟩
    rw [List.getElem?_map] at hd
    obtain ⟨x, hx, rfl⟩ := Option.map_eq_some_iff.mp hd
    have hi : i < t.sz := by
      have := (List.getElem?_eq_some_iff.mp hx).1
      rwa [rws_len] at this
    refine ⟨by simp only [still_one, still_nil, and_true]; exact get_old gR, _, rfl, ?_⟩
    have e0 : (M0 ++ [O.lst ((cs.take i).map D.int)])[M0.length]? = some (.lst ((cs.take i).map D.int)) := get_here
    have hlv : ((cs.take i).map D.int).length < 16777216 := by simp; omega
    have hset : ∀ l l2 : List D, (M0 ++ [O.lst l]).set M0.length (.lst l2) = M0 ++ [O.lst l2] := fun l l2 => by simp
    have hnx : ∀ v, cs[i]? = some v → (cs.take i).map D.int ++ [D.int v] = (cs.take (i + 1)).map D.int := fun v hv => by
      rw [List.take_succ, hv, List.map_append]
      rfl
    have htl : (cs.take i).length = i := by rw [List.length_take, hcl]; omega
    have hget : ∀ {j : Nat} {v : Int}, j < i → cs[j]? = some v → cN (cs.take i) j = v := fun {j v} hj hv => by
      unfold cN
      rw [List.getD_eq_getElem?_getD, List.getElem?_take, if_pos hj, hv]
      rfl
    rcases rws_subs t 0 i x hx with ⟨v, rfl, hv⟩ | ⟨tb, l, r, a, b, rfl, ha, hb, v1, v2, v3⟩
    · have hnx := hnx _ (hgc hv)
      generalize hT : some (tD t) = T0
      walk_at "di"
      try rw [e0]
      walk_at "di"
      rw [if_pos hlv, show (1 : Int) = cstT p (.leaf v) from rfl, hnx]
      walk_at "di"
      first | exact ⟨_, _, _, rfl⟩ | exact ⟨_, _, _, rfl, rfl⟩
    · have hnx := hnx _ (hgc v3)
      rw [Nat.zero_add, Nat.zero_add]
      generalize hT : some (tD t) = T0
      walk_at "di"
      rw [if_neg (by omega)]
      walk_at "di"
      try rw [e0]
      walk_at "di"
      try rw [e0]
      walk_at "di"
      rw [atI_cN (j := a) (by omega) rfl, hget ha (hgc v1)]
      walk_at "di"
      try rw [e0]
      walk_at "di"
      rw [atI_cN (j := b) (by omega) rfl, hget hb (hgc v2)]
      walk_at "di"
      rw [mulG_l (by omega)]
      walk_at "di"
      rw [if_pos hlv]
      rw [show (p - 1) * (2 * (cstT p l + cstT p r) + 5) = cstT p (.node tb l r) from rfl, hnx]
      walk_at "di"
      first | exact ⟨_, _, _, rfl⟩ | exact ⟨_, _, _, rfl, rfl⟩
  · rintro r M1 ⟨x5, x6, x7, rfl, rfl⟩
    refine ⟨by simp only [still_one, still_nil, and_true]; exact get_old gR, ?_⟩
    rw [List.length_map, rws_len, ← hcl, List.take_length, ← hcs]
    obtain ⟨xs, ex⟩ := subs_last t
    rw [ex, List.map_append, List.map_append, List.map_singleton, List.map_singleton]
    have e0 : (M0 ++ [O.lst ((xs.map (cstT p)).map D.int ++ [D.int (cstT p t)])])[M0.length]? = some (.lst ((xs.map (cstT p)).map D.int ++ [D.int (cstT p t)])) := get_here
    walk_at "ds"
    try rw [e0]
    walk_at "ds"
    rw [L2.atI_last]
    walk_at "ds"
    obtain ⟨X, rfl⟩ := hM0
    exact ⟨_, by rw [List.append_assoc]⟩
  · exact ⟨none, none, none, rfl, rfl⟩
/-! ### try -/
def asQ (i : Nat) (Q : Fl × Hd → Prop) : Fl × Hd → Prop := fun o => match o with
  | (.nx r, M) => Q (.nx (clr i r), M)
  | (.bk r, M) => Q (.bk (clr i r), M)
  | (.ct r, M) => Q (.ct (clr i r), M)
  | (.rt d, M) => Q (.rt d, M)
  | (.xx _ _, _) => False
theorem asQ_nx {i : Nat} {Q : Fl × Hd → Prop} {r : Ev} {M : Hd} : asQ i Q (.nx r, M) ↔ Q (.nx (clr i r), M) := Iff.rfl
theorem asQ_rt {i : Nat} {Q : Fl × Hd → Prop} {d : D} {M : Hd} : asQ i Q (.rt d, M) ↔ Q (.rt d, M) := Iff.rfl
theorem asQ_ct {i : Nat} {Q : Fl × Hd → Prop} {r : Ev} {M : Hd} : asQ i Q (.ct r, M) ↔ Q (.ct (clr i r), M) := Iff.rfl
/-- nothing is raised, or what is caught -/
def tyQ (sub : Str → Option Bool) (i : Nat) (suite : Str → SF) (Q : Fl × Hd → Prop) : Fl × Hd → Prop := fun o => match o with
  | (.xx c r, M) => sub c = some true ∧ Wp (suite c (clr i r) M) (asQ i Q)
  | o => Q o
section
variable {sub : Str → Option Bool} {i : Nat} {suite : Str → SF} {Q : Fl × Hd → Prop} {r : Ev} {M : Hd} {c : Str} {d : D} {body : SF}
theorem tyQ_xx : tyQ sub i suite Q (.xx c r, M) ↔ (sub c = some true ∧ Wp (suite c (clr i r) M) (asQ i Q)) := Iff.rfl
theorem tyQ_nx : tyQ sub i suite Q (.nx r, M) ↔ Q (.nx r, M) := Iff.rfl
theorem tyQ_rt : tyQ sub i suite Q (.rt d, M) ↔ Q (.rt d, M) := Iff.rfl
theorem wp_tryAs (h : Wp (body r M) (tyQ sub i suite Q)) : Wp (sTryAs sub i body suite r M) Q := by
  obtain ⟨o, e, q⟩ := h
  unfold sTryAs
  rw [e]
  obtain ⟨fl, M1⟩ := o
  cases fl with
  | xx c r1 =>
    obtain ⟨h1, o2, e2, q2⟩ := q
    dsimp only
    rw [h1]
    dsimp only
    rw [e2]
    obtain ⟨fl2, M2⟩ := o2
    cases fl2 with
    | xx c r2 => exact q2.elim
    | nx r2 => exact ⟨_, rfl, q2⟩
    | bk r2 => exact ⟨_, rfl, q2⟩
    | ct r2 => exact ⟨_, rfl, q2⟩
    | rt d => exact ⟨_, rfl, q2⟩
  | nx r1 => exact ⟨_, rfl, q⟩
  | bk r1 => exact ⟨_, rfl, q⟩
  | ct r1 => exact ⟨_, rfl, q⟩
  | rt d => exact ⟨_, rfl, q⟩
end
/-! ### trees with spoilt parts -/
inductive St where
  | leaf (v : Int) | node (tb : List (List Int)) (l r : St) | bad (d : D)
def sD : St → D
  | .leaf v => .tup [.str "leaf", .int v]
  | .node tb l r => .tup [.str "node", tbD tb, sD l, sD r]
  | .bad d => d
def NoTree (n : Int) (M : Hd) (d : D) : Prop := ∀ X, m_is_leaf [d, .int n] (M ++ X) = some (.ok (.bl false) (M ++ X)) ∧ m_is_inner [d, .int n] (M ++ X) = some (.ok (.bl false) (M ++ X))
theorem NoTree.app {n : Int} {M X : Hd} {d : D} (h : NoTree n M d) : NoTree n (M ++ X) d := fun Y => by
  rw [List.append_assoc]
  exact h _
def sOk (n : Int) (M : Hd) : St → Prop
  | .leaf v => 0 ≤ v ∧ v < n
  | .node tb l r => TbOk n tb ∧ sOk n M l ∧ sOk n M r
  | .bad d => NoTree n M d
def St.isB : St → Bool
  | .leaf _ => false
  | .node _ l r => l.isB || r.isB
  | .bad _ => true
def St.dep : St → Nat
  | .node _ l r => 1 + max l.dep r.dep
  | _ => 1
def St.sz : St → Nat
  | .node _ l r => 1 + l.sz + r.sz
  | _ => 1
theorem st_pos : ∀ (t : St), 1 ≤ t.sz
  | .leaf _ => Nat.le_refl _
  | .bad _ => Nat.le_refl _
  | .node _ l r => by simp only [St.sz]; omega
structure Ts where
  t : St
  d : Nat
  o : Bool
def tsD (k : Ts) : D := .tup [sD k.t, .int k.d, .bl k.o]
def okS : List Ts → Nat → Prop
  | [], _ => True
  | ⟨_, _, false⟩ :: ts, k => okS ts (k + 1)
  | ⟨_, _, true⟩ :: ts, k => 2 ≤ k ∧ okS ts (k - 1)
def wtS : List Ts → Nat
  | [] => 0
  | ⟨t, _, false⟩ :: ts => 2 * t.sz + wtS ts
  | ⟨_, _, true⟩ :: ts => 1 + wtS ts
def cntS : List Ts → Nat
  | [] => 0
  | ⟨t, _, false⟩ :: ts => t.sz + cntS ts
  | ⟨_, _, true⟩ :: ts => 1 + cntS ts
theorem is_leaf_leaf {n v : Int} {M : Hd} (h : 0 ≤ v ∧ v < n) : m_is_leaf [.tup [.str "leaf", .int v], .int n] M = some (.ok (.bl true) M) := is_leaf_eq (t := .leaf v) h
theorem is_leaf_node {n : Int} {a b c : D} {M : Hd} : m_is_leaf [.tup [.str "node", a, b, c], .int n] M = some (.ok (.bl false) M) := by
  refine wp_eq ?_
  refine wp_mir rfl ?_
  unfold g_is_leaf
  walk_at "sx"
  first | done | rfl
theorem is_inner_node {n : Int} {tb : List (List Int)} {a b : D} {M : Hd} (h : TbOk n tb) (h1 : 1 ≤ n) : m_is_inner [.tup [.str "node", tbD tb, a, b], .int n] M = some (.ok (.bl true) M) := by
  have hl := h.l
  refine wp_eq ?_
  refine wp_mir rfl ?_
  unfold g_is_inner
  walk_at "sx"
  rw [is_treetab_yes h h1]
  walk_at "sx"
  unfold tbD
  walk_at "sx"
  rw [List.length_map, decide_eq_true hl]
theorem listed_st {n : Int} {t : St} {M : Hd} (h : sOk n M t) (h1 : 1 ≤ n) : Wp (m_listed [sD t, .int n] M) (fun o => (∃ X, o = .er "BadTree" (M ++ X)) ∨ (t.isB = false ∧ t.dep ≤ 40 ∧ ∃ R a b, R.length = t.sz ∧ o = .ok (.ref M.length) (M ++ [.lst R, a, b]))) := by
  refine wp_mir rfl ?_
  unfold g_listed
  walk_at "ds"
  have e0 : M ++ [O.lst []] ++ [O.lst []] ++ [O.lst [.tup [sD t, .int 1, .bl false]]] = M ++ [O.lst [], O.lst (([] : List Int).map D.int), O.lst (([⟨t, 1, false⟩] : List Ts).reverse.map tsD)] := by simp [tsD]
  have e1 : (M ++ [O.lst []]).length = M.length + 1 := by simp
  have e2 : (M ++ [O.lst []] ++ [O.lst []]).length = M.length + 2 := by simp
  rw [e0, e1, e2]
  refine wp_while (n := wtS [⟨t, 1, false⟩]) (fun w r M1 => ∃ (ts : List Ts) (R : List D) (P : List Int) (x5 x6 x7 x8 x9 : Option D), r = [some (sD t), some (.int n), some (.ref M.length), some (.ref (M.length + 1)), some (.ref (M.length + 2)), x5, x6, x7, x8, x9] ∧ M1 = M ++ [.lst R, .lst (P.map D.int), .lst (ts.reverse.map tsD)] ∧ w = wtS ts ∧ okS ts P.length ∧ (∀ k ∈ ts, sOk n M k.t) ∧ R.length + ts.length ≤ 202 ∧ P.length ≤ R.length ∧ (t.isB = true → ∃ k ∈ ts, k.o = false ∧ k.t.isB = true) ∧ (40 < t.dep → ∃ k ∈ ts, k.o = false ∧ 41 < k.d + k.t.dep) ∧ R.length + cntS ts = t.sz) ?_ ?_
  · rintro w r M1 ⟨ts, R, P, x5, x6, x7, x8, x9, rfl, rfl, rfl, hok, htk, hlen, hPR, hbad, hdp, hsz⟩
    have et : tTru (eVar 4) [some (sD t), some (.int n), some (.ref M.length), some (.ref (M.length + 1)), some (.ref (M.length + 2)), x5, x6, x7, x8, x9] (M ++ [.lst R, .lst (P.map D.int), .lst (ts.reverse.map tsD)]) = some (.ok (!(ts.reverse.map tsD).isEmpty) (M ++ [.lst R, .lst (P.map D.int), .lst (ts.reverse.map tsD)])) := by
      simp only [tTru, eVar, List.getElem?_cons_succ, List.getElem?_cons_zero, bnd_ok, truD]
      rw [t3c]
    rw [et, wp_some]
    dsimp only
    cases ts with
    | nil =>
      refine ⟨fun _ => ?_, fun hb => by simp at hb⟩
      walk_at "ds"
      refine .inr ⟨?_, ?_, R, _, _, ?_, rfl⟩
      · cases e : t.isB with
        | false => rfl
        | true =>
          obtain ⟨k, hk, _⟩ := hbad e
          cases hk
      · by_cases hd : 40 < t.dep
        · obtain ⟨k, hk, _⟩ := hdp hd
          cases hk
        · omega
      · simpa [cntS] using hsz
    | cons k ts =>
      refine ⟨fun hb => by simp at hb, fun _ => ?_⟩
      have hrev : (k :: ts).reverse.map tsD = ts.reverse.map tsD ++ [tsD k] := by simp
      rw [hrev]
      have hk1 := htk k List.mem_cons_self
      have htk' : ∀ k ∈ ts, sOk n M k.t := fun k hk => htk k (List.mem_cons_of_mem _ hk)
      rw [List.length_cons] at hlen
      rw [wp_seq]
      unfold sAsgT
      rw [pop_ref (i := M.length + 2) rfl t3c, exB_ok, s3c]
      obtain ⟨kt, kd, ko⟩ := k
      rw [show tsD (⟨kt, kd, ko⟩ : Ts) = .tup [sD kt, .int kd, .bl ko] from rfl]
      simp only [Tg.put, setAll, List.set_cons_succ, List.set_cons_zero]
      rw [wp_some, nxQ_nx, wp_seq]
      have hlR : R.length < 16777216 := by omega
      have hlP : P.length ≤ 16777215 := by omega
      have hlT : (ts.reverse.map tsD).length ≤ 1000 := by simp; omega
      cases ko with
      | true =>
        simp only [okS] at hok
        simp only [cntS] at hsz
        refine wp_if' (b := true) rfl (fun _ => ?_) (fun hb => nomatch hb)
        obtain ⟨P0, a, b, rfl⟩ : ∃ P0 a b, P = P0 ++ [a, b] := by
          rcases List.eq_nil_or_concat P with e | ⟨Q1, b, e⟩
          · rw [e] at hok; simp at hok
          · rcases List.eq_nil_or_concat Q1 with e2 | ⟨Q2, a, e2⟩
            · rw [e, e2] at hok; simp at hok
            · exact ⟨Q2, a, b, by rw [e, e2]; simp⟩
        have hP2 : (P0 ++ [a, b]).map D.int = (P0.map D.int ++ [.int a]) ++ [.int b] := by simp
        rw [hP2]
        rw [wp_seq]
        unfold sAsg
        rw [pop_ref (i := M.length + 1) rfl t3b, exB_ok, s3b]
        rw [wp_some, nxQ_nx, wp_seq]
        rw [pop_ref (i := M.length + 1) rfl t3b, exB_ok, s3b]
        rw [wp_some, nxQ_nx]
        simp only [List.set_cons_succ, List.set_cons_zero]
        walk_at "ds"
        rw [t3a]
        walk_at "ds"
        try rw [t3a]
        try dsimp only
        rw [if_pos hlR, s3a]
        walk_at "ds"
        rw [t3b]
        dsimp only
        rw [t3a]
        walk_at "ds"
        try rw [t3b]
        try dsimp only
        rw [if_pos (by simp; simp at hlP; omega), s3b]
        walk_at "ds"
        have sub : ∀ {p : Ts → Prop}, (∃ k ∈ (⟨kt, kd, true⟩ : Ts) :: ts, k.o = false ∧ p k) → ∃ k ∈ ts, k.o = false ∧ p k := fun ⟨k, hk, ho, hp⟩ => by
          rcases List.mem_cons.mp hk with rfl | hk
          · cases ho
          · exact ⟨k, hk, ho, hp⟩
        refine ⟨wtS ts, by simp only [wtS]; omega, ts, R ++ [.tup [sD kt, .int a, .int b]], P0 ++ [(R.length : Int)], _, _, _, _, _, rfl, ?_, rfl, ?_, htk', by simp; omega, by simp at hPR ⊢; omega, fun e => sub (hbad e), fun e => sub (hdp e), by simp; omega⟩
        · simp
        · have h7 : (P0 ++ [a, b]).length - 1 = (P0 ++ [(R.length : Int)]).length := by simp
          rw [← h7]
          exact hok.2
      | false =>
        simp only [okS] at hok
        simp only [cntS] at hsz
        have hszp := st_pos kt
        refine wp_if' (b := false) rfl (fun hb => nomatch hb) (fun _ => wp_nil ?_)
        rw [wp_seq]
        refine Wp.imp (Q := fun o => (kd ≤ 40 ∧ R.length + ts.length < 200 ∧ o = (Fl.nx [some (sD t), some (.int n), some (.ref M.length), some (.ref (M.length + 1)), some (.ref (M.length + 2)), some (sD kt), some (.int kd), some (.bl false), x8, x9], M ++ [.lst R, .lst (P.map D.int), .lst (ts.reverse.map tsD)])) ∨ ∃ r X, o = (Fl.xx "BadTree" r, M ++ X)) ?_ ?_
        · walk_at "di"
          split
          · rename_i h40
            exact .inr ⟨_, _, rfl⟩
          · rename_i h40
            rw [t3a]
            walk_at "di"
            rw [t3c]
            walk_at "di"
            split
            · exact .inr ⟨_, _, rfl⟩
            · rename_i h200
              simp at h200
              first | exact .inl ⟨by omega, by omega, rfl⟩ | exact .inl ⟨by omega, by omega⟩
        rintro _ (⟨hkd, hrt, rfl⟩ | ⟨r, X, rfl⟩)
        rotate_left
        · rw [nxQ_xx, lpQ_xx, nxQ_xx, fnQ_xx]
          exact .inl ⟨X, rfl⟩
        rw [nxQ_nx]
        have tlf : ∀ {b}, m_is_leaf [sD kt, .int n] (M ++ [.lst R, .lst (P.map D.int), .lst (ts.reverse.map tsD)]) = some (.ok (.bl b) (M ++ [.lst R, .lst (P.map D.int), .lst (ts.reverse.map tsD)])) → tTru (eCall m_is_leaf (aCons (eVar 5) (aCons (eVar 1) aNil))) [some (sD t), some (.int n), some (.ref M.length), some (.ref (M.length + 1)), some (.ref (M.length + 2)), some (sD kt), some (.int kd), some (.bl false), x8, x9] (M ++ [.lst R, .lst (P.map D.int), .lst (ts.reverse.map tsD)]) = some (.ok b (M ++ [.lst R, .lst (P.map D.int), .lst (ts.reverse.map tsD)])) := fun {b} e => by
          simp only [tTru, eCall, aCons, aNil, eVar, List.getElem?_cons_succ, List.getElem?_cons_zero, bnd_ok, e, truD]
        have tin : ∀ {b}, m_is_inner [sD kt, .int n] (M ++ [.lst R, .lst (P.map D.int), .lst (ts.reverse.map tsD)]) = some (.ok (.bl b) (M ++ [.lst R, .lst (P.map D.int), .lst (ts.reverse.map tsD)])) → tTru (eCall m_is_inner (aCons (eVar 5) (aCons (eVar 1) aNil))) [some (sD t), some (.int n), some (.ref M.length), some (.ref (M.length + 1)), some (.ref (M.length + 2)), some (sD kt), some (.int kd), some (.bl false), x8, x9] (M ++ [.lst R, .lst (P.map D.int), .lst (ts.reverse.map tsD)]) = some (.ok b (M ++ [.lst R, .lst (P.map D.int), .lst (ts.reverse.map tsD)])) := fun {b} e => by
          simp only [tTru, eCall, aCons, aNil, eVar, List.getElem?_cons_succ, List.getElem?_cons_zero, bnd_ok, e, truD]
        cases kt with
        | leaf v =>
          refine wp_if' (tlf (is_leaf_leaf hk1)) (fun _ => ?_) (fun hb => nomatch hb)
          walk_at "ds"
          rw [t3a]
          walk_at "ds"
          try rw [t3a]
          try dsimp only
          rw [if_pos hlR, s3a]
          walk_at "ds"
          rw [t3b]
          dsimp only
          rw [t3a]
          walk_at "ds"
          try rw [t3b]
          try dsimp only
          rw [if_pos (by simp; omega), s3b]
          walk_at "ds"
          simp only [St.sz] at hsz
          refine ⟨wtS ts, by simp only [wtS, St.sz]; omega, ts, R ++ [.tup [sD (.leaf v), .int (-1), .int (-1)]], P ++ [(R.length : Int)], _, _, _, _, _, rfl, ?_, rfl, by simpa using hok, htk', by simp; omega, by simp; omega, fun e => ?_, fun e => ?_, by simp; omega⟩
          · simp
          · obtain ⟨k, hk, ho, hp⟩ := hbad e
            rcases List.mem_cons.mp hk with rfl | hk
            · cases hp
            · exact ⟨k, hk, ho, hp⟩
          · obtain ⟨k, hk, ho, hp⟩ := hdp e
            rcases List.mem_cons.mp hk with rfl | hk
            · simp only [St.dep] at hp
              omega
            · exact ⟨k, hk, ho, hp⟩
        | bad d =>
          have hbd := hk1 [.lst R, .lst (P.map D.int), .lst (ts.reverse.map tsD)]
          refine wp_if' (tlf hbd.1) (fun hb => nomatch hb) (fun _ => ?_)
          refine wp_if' (tin hbd.2) (fun hb => nomatch hb) (fun _ => ?_)
          unfold sRaise
          rw [wp_some, lpQ_xx, nxQ_xx, fnQ_xx]
          exact .inl ⟨_, rfl⟩
        | node tb l r =>
          obtain ⟨hk3, hk4, hk5⟩ := hk1
          refine wp_if' (tlf is_leaf_node) (fun hb => nomatch hb) (fun _ => ?_)
          refine wp_if' (tin (is_inner_node hk3 h1)) (fun _ => ?_) (fun hb => nomatch hb)
          have hpush : ∀ (k : Ts) (ts : List Ts), ts.reverse.map tsD ++ [tsD k] = (k :: ts).reverse.map tsD := fun k ts => by simp
          have hN : sD (.node tb l r) = .tup [.str "node", tbD tb, sD l, sD r] := rfl
          clear tlf tin et
          generalize hTt : sD t = T0
          walk_at "ds"
          rw [t3c]
          walk_at "ds"
          try rw [t3c]
          try dsimp only
          rw [if_pos (by omega), s3c]
          have p1 : D.tup [sD (.node tb l r), .int kd, .bl true] = tsD ⟨.node tb l r, kd, true⟩ := rfl
          rw [p1, hpush]
          walk_at "ds"
          rw [t3c]
          rw [hN]
          walk_at "ds"
          try rw [t3c]
          try dsimp only
          rw [if_pos (by simp at hlT ⊢; omega), s3c]
          have p2 : D.tup [sD r, .int ((kd : Int) + 1), .bl false] = tsD ⟨r, kd + 1, false⟩ := by simp [tsD]
          rw [p2, hpush]
          walk_at "ds"
          rw [t3c]
          walk_at "ds"
          try rw [t3c]
          try dsimp only
          rw [if_pos (by simp at hlT ⊢; omega), s3c]
          have p3 : D.tup [sD l, .int ((kd : Int) + 1), .bl false] = tsD ⟨l, kd + 1, false⟩ := by simp [tsD]
          rw [p3, hpush]
          walk_at "ds"
          simp only [St.sz] at hsz
          refine ⟨_, ?_, _, R, P, _, _, _, _, _, rfl, rfl, rfl, ?_, ?_, by simp; omega, hPR, fun e => ?_, fun e => ?_, by simp only [cntS]; omega⟩
          · simp only [wtS, St.sz]; omega
          · simp only [okS]
            exact ⟨by omega, by simpa using hok⟩
          · intro k hk
            rcases List.mem_cons.mp hk with rfl | hk
            · exact hk4
            rcases List.mem_cons.mp hk with rfl | hk
            · exact hk5
            rcases List.mem_cons.mp hk with rfl | hk
            · exact ⟨hk3, hk4, hk5⟩
            · exact htk' k hk
          · obtain ⟨k, hk, ho, hp⟩ := hbad e
            rcases List.mem_cons.mp hk with rfl | hk
            · simp only [St.isB, Bool.or_eq_true] at hp
              rcases hp with hp | hp
              · exact ⟨_, List.mem_cons_self, rfl, hp⟩
              · exact ⟨_, List.mem_cons_of_mem _ List.mem_cons_self, rfl, hp⟩
            · exact ⟨k, List.mem_cons_of_mem _ (List.mem_cons_of_mem _ (List.mem_cons_of_mem _ hk)), ho, hp⟩
          · obtain ⟨k, hk, ho, hp⟩ := hdp e
            rcases List.mem_cons.mp hk with rfl | hk
            · simp only [St.dep] at hp
              by_cases h2 : 41 < kd + 1 + l.dep
              · exact ⟨_, List.mem_cons_self, rfl, h2⟩
              · exact ⟨_, List.mem_cons_of_mem _ List.mem_cons_self, rfl, by dsimp only; omega⟩
            · exact ⟨k, List.mem_cons_of_mem _ (List.mem_cons_of_mem _ (List.mem_cons_of_mem _ hk)), ho, hp⟩
  · refine ⟨[⟨t, 1, false⟩], [], [], none, none, none, none, none, rfl, rfl, rfl, trivial, ?_, by simp, Nat.le_refl _, fun e => ⟨_, List.mem_cons_self, rfl, e⟩, fun e => ⟨_, List.mem_cons_self, rfl, by dsimp only; omega⟩, by simp [cntS]⟩
    intro k hk
    rw [List.mem_singleton] at hk
    subst hk
    exact h
/-! ### what is refused -/
def Refused (d v : D) (M : Hd) : Prop := ∀ X, ∃ Y, m_rows_of [d, v] (M ++ X) = some (.er "BadTree" (M ++ X ++ Y))
theorem Refused.app {d v : D} {M X : Hd} (h : Refused d v M) : Refused d v (M ++ X) := fun Y => by
  rw [List.append_assoc]
  exact h _
theorem sOk_app {n : Int} {M X : Hd} : ∀ {t : St}, sOk n M t → sOk n (M ++ X) t
  | .leaf _, h => h
  | .node _ _ _, h => ⟨h.1, sOk_app h.2.1, sOk_app h.2.2⟩
  | .bad _, h => NoTree.app h
theorem er_of {x : Option (Rs D)} {M : Hd} (h : Wp x (fun o => ∃ X, o = .er "BadTree" (M ++ X))) : ∃ X, x = some (.er "BadTree" (M ++ X)) := by
  obtain ⟨o, e, X, rfl⟩ := h
  exact ⟨X, e⟩
theorem rows_st {n : Int} {t : St} {M : Hd} (h : sOk n M t) (h1 : 1 ≤ n ∧ n ≤ 40) (hb : t.isB = true ∨ 40 < t.dep ∨ 200 < t.sz) : Refused (sD t) (.int n) M := by
  intro X
  have h := sOk_app (X := X) h
  generalize M ++ X = M at h ⊢
  refine er_of ?_
  refine wp_mir rfl ?_
  unfold g_rows_of
  have hst : startD N_rows_of.length [sD t, .int n] = [some (sD t), some (.int n), none] := rfl
  rw [hst, wp_seq]
  refine Wp.imp (Q := fun o => o = (Fl.nx [some (sD t), some (.int n), none], M)) ?_ ?_
  · walk_at "di"
    rw [is_integer_yes]
    walk_at "di"
    rw [if_pos h1.1]
    walk_at "di"
    rw [if_neg (by simp; omega)]
    first | done | trivial | rfl
  rintro _ rfl
  rw [nxQ_nx, wp_seq]
  obtain ⟨o, e, hq⟩ := listed_st h h1.1
  unfold sAsg
  have e2 : eCall m_listed (aCons (eVar 0) (aCons (eVar 1) aNil)) [some (sD t), some (.int n), none] M = some o := by
    simp only [eCall, aCons, aNil, eVar, List.getElem?_cons_succ, List.getElem?_cons_zero, bnd_ok, e]
  rcases hq with ⟨Y, rfl⟩ | ⟨b1, b2, R, a, b, hR, rfl⟩
  · rw [wp_exB, e2, wp_some]
    exact ⟨Y, rfl⟩
  · have hs : 200 < t.sz := by
      rcases hb with hb | hb | hb
      · rw [b1] at hb; cases hb
      · omega
      · exact hb
    rw [wp_exB, e2, wp_some]
    dsimp only
    rw [wp_some]
    generalize sD t = T
    walk_at "di"
    rw [t3a]
    walk_at "di"
    rw [hR, if_pos (by omega)]
    walk_at "di"
    exact ⟨_, rfl⟩
theorem int_bl {b : Bool} {M : Hd} : m_is_integer [.bl b] M = some (.ok (.bl false) M) := by
  refine wp_eq ?_
  refine wp_mir rfl ?_
  unfold g_is_integer
  walk_at "di"
  all_goals first | done | rfl | trivial
theorem int_non {M : Hd} : m_is_integer [.non] M = some (.ok (.bl false) M) := by
  refine wp_eq ?_
  refine wp_mir rfl ?_
  unfold g_is_integer
  walk_at "di"
  all_goals first | done | rfl | trivial
theorem rows_badv {d v : D} {M : Hd} (hv : v = .int 0 ∨ v = .int 41 ∨ v = .bl true ∨ v = .non) : Refused d v M := by
  intro X
  generalize M ++ X = M
  refine er_of ?_
  refine wp_mir rfl ?_
  unfold g_rows_of
  have hst : startD N_rows_of.length [d, v] = [some d, some v, none] := rfl
  rw [hst, wp_seq]
  have key : Wp (sIf (tOr (tNot (tTru (eCall m_is_integer (aCons (eVar 1) aNil)))) (tNot (tVal (eChain leG leG (eC (.int 1)) (eVar 1) (eC (.int 40)))))) (sRaise "BadTree") sNil [some d, some v, none] M) (fun o => o = (Fl.xx "BadTree" [some d, some v, none], M)) := by
    rcases hv with rfl | rfl | rfl | rfl
    · walk_at "di"
      rw [is_integer_yes]
      walk_at "di"
      all_goals first | done | rfl | trivial
    · walk_at "di"
      rw [is_integer_yes]
      walk_at "di"
      all_goals first | done | rfl | trivial
    · walk_at "di"
      rw [int_bl]
      walk_at "di"
      all_goals first | done | rfl | trivial
    · walk_at "di"
      rw [int_non]
      walk_at "di"
      all_goals first | done | rfl | trivial
  refine key.imp ?_
  rintro _ rfl
  rw [nxQ_xx, fnQ_xx]
  exact ⟨[], by rw [List.append_nil]⟩
theorem refd_at {d v : D} {M : Hd} (h : Refused d v M) (X : Hd) : ∃ Y, m_rows_of [d, v] (M ++ X) = some (.er "BadTree" (M ++ X ++ Y)) := h X
theorem check_er {d v : D} {M : Hd} (h : Refused d v M) : ∃ X, m_check_tree [d, v] M = some (.er "BadTree" (M ++ X)) := by
  obtain ⟨Y, e⟩ := h []
  rw [List.append_nil] at e
  refine er_of ?_
  refine wp_mir rfl ?_
  unfold g_check_tree
  walk_at "ds"
  rw [e]
  walk_at "ds"
  exact ⟨_, rfl⟩
theorem value_er {d v : D} {M : Hd} (h : Refused d v M) : ∃ X, m_tree_value [d, v] M = some (.er "BadTree" (M ++ X)) := by
  obtain ⟨Y, e⟩ := h [.lst []]
  refine er_of ?_
  refine wp_mir rfl ?_
  unfold g_tree_value
  walk_at "ds"
  rw [e]
  walk_at "ds"
  exact ⟨_, by rw [List.append_assoc]⟩
theorem cost_er {d v : D} {M : Hd} (h : Refused d v M) : ∃ X, m_tree_cost [d, v] M = some (.er "BadTree" (M ++ X)) := by
  obtain ⟨Y, e⟩ := h []
  rw [List.append_nil] at e
  refine er_of ?_
  refine wp_mir rfl ?_
  unfold g_tree_cost
  walk_at "ds"
  rw [e]
  walk_at "ds"
  exact ⟨_, rfl⟩
theorem comp_er {d v : D} {M : Hd} (h : Refused d v M) : ∃ X, m_compile_tree [d, v] M = some (.er "BadTree" (M ++ X)) := by
  obtain ⟨Y, e⟩ := h []
  rw [List.append_nil] at e
  refine er_of ?_
  refine wp_mir rfl ?_
  unfold g_compile_tree
  walk_at "ds"
  rw [e]
  walk_at "ds"
  exact ⟨_, rfl⟩
theorem prime_er {v : D} {M : Hd} (hv : v = .int 0 ∨ v = .int 41 ∨ v = .bl true ∨ v = .non) : ∃ X, m_prime_of [v] M = some (.er "BadTree" (M ++ X)) := by
  refine er_of ?_
  refine wp_mir rfl ?_
  unfold g_prime_of
  have hst : startD N_prime_of.length [v] = [some v, none] := rfl
  rw [hst, wp_seq]
  have key : Wp (sIf (tOr (tNot (tTru (eCall m_is_integer (aCons (eVar 0) aNil)))) (tNot (tVal (eChain leG leG (eC (.int 1)) (eVar 0) (eC (.int 40)))))) (sRaise "BadTree") sNil [some v, none] M) (fun o => o = (Fl.xx "BadTree" [some v, none], M)) := by
    rcases hv with rfl | rfl | rfl | rfl
    · walk_at "di"
      rw [is_integer_yes]
      walk_at "di"
      all_goals first | done | rfl | trivial
    · walk_at "di"
      rw [is_integer_yes]
      walk_at "di"
      all_goals first | done | rfl | trivial
    · walk_at "di"
      rw [int_bl]
      walk_at "di"
      all_goals first | done | rfl | trivial
    · walk_at "di"
      rw [int_non]
      walk_at "di"
      all_goals first | done | rfl | trivial
  refine key.imp ?_
  rintro _ rfl
  rw [nxQ_xx, fnQ_xx]
  exact ⟨[], by rw [List.append_nil]⟩
theorem refused_yes {d v : D} {w : Int} {M : Hd} (h : Refused d v M) (hw : 0 ≤ w ∧ w ≤ 3) : Wp (m__law_refused [d, v, .int w] M) (okQ fun d M1 => d = .bl true ∧ ∃ X, M1 = M ++ X) := by
  refine wp_mir rfl ?_
  unfold g__law_refused
  walk_at "ds"
  refine Wp.imp (Q := fun o => ∃ X, o = (Fl.rt (.bl true), M ++ X)) ?_ ?_
  · refine wp_tryAs ?_
    refine Wp.imp (Q := fun o => ∃ a b c e X, o = (Fl.xx "BadTree" [a, b, c, e], M ++ X)) ?_ ?_
    · obtain ⟨Xa, ea⟩ := check_er h
      obtain ⟨Xb, eb⟩ := value_er h
      obtain ⟨Xc, ec⟩ := cost_er h
      obtain ⟨Xd, ed⟩ := comp_er h
      have hc : w = 0 ∨ w = 1 ∨ w = 2 ∨ w = 3 := by omega
      rcases hc with rfl | rfl | rfl | rfl
      · walk_at "di"
        rw [ea]
        walk_at "di"
        exact ⟨_, _, _, _, _, rfl⟩
      · walk_at "di"
        rw [eb]
        walk_at "di"
        exact ⟨_, _, _, _, _, rfl⟩
      · walk_at "di"
        rw [ec]
        walk_at "di"
        exact ⟨_, _, _, _, _, rfl⟩
      · walk_at "di"
        rw [ed]
        walk_at "di"
        exact ⟨_, _, _, _, _, rfl⟩
    rintro _ ⟨a, b, c, e, X, rfl⟩
    rw [tyQ_xx]
    refine ⟨by decide +kernel, ?_⟩
    walk_at "di"
    rw [show tblOf [("BrimfulError", true), ("BadStep", true), ("BadMemory", true), ("BadSource", true), ("TooLong", true), ("BadTree", true)] "BadTree" = some true from by decide +kernel]
    rw [show tblOf [("BrimfulError", false), ("BadStep", true), ("BadMemory", true), ("BadSource", true), ("TooLong", true), ("BadTree", false)] "BadTree" = some false from by decide +kernel]
    unfold eIsE clr
    walk_at "di"
    exact ⟨X, rfl⟩
  rintro _ ⟨X, rfl⟩
  walk_at "ds"
  exact ⟨X, rfl⟩
theorem refused_prime {d v : D} {M : Hd} (hv : v = .int 0 ∨ v = .int 41 ∨ v = .bl true ∨ v = .non) : Wp (m__law_refused [d, v, .int 4] M) (okQ fun d M1 => d = .bl true ∧ ∃ X, M1 = M ++ X) := by
  obtain ⟨Xa, ea⟩ := prime_er (M := M) hv
  refine wp_mir rfl ?_
  unfold g__law_refused
  walk_at "ds"
  refine Wp.imp (Q := fun o => ∃ X, o = (Fl.rt (.bl true), M ++ X)) ?_ ?_
  · refine wp_tryAs ?_
    refine Wp.imp (Q := fun o => ∃ a b c e X, o = (Fl.xx "BadTree" [a, b, c, e], M ++ X)) ?_ ?_
    · walk_at "di"
      rw [ea]
      walk_at "di"
      exact ⟨_, _, _, _, _, rfl⟩
    rintro _ ⟨a, b, c, e, X, rfl⟩
    rw [tyQ_xx]
    refine ⟨by decide +kernel, ?_⟩
    walk_at "di"
    rw [show tblOf [("BrimfulError", true), ("BadStep", true), ("BadMemory", true), ("BadSource", true), ("TooLong", true), ("BadTree", true)] "BadTree" = some true from by decide +kernel]
    rw [show tblOf [("BrimfulError", false), ("BadStep", true), ("BadMemory", true), ("BadSource", true), ("TooLong", true), ("BadTree", false)] "BadTree" = some false from by decide +kernel]
    unfold eIsE clr
    walk_at "di"
    exact ⟨X, rfl⟩
  rintro _ ⟨X, rfl⟩
  walk_at "ds"
  exact ⟨X, rfl⟩
/-! ### what is not refused -/
theorem check_ok {n : Int} {t : Tr} {M : Hd} (h : TOk n t) (h1 : 1 ≤ n ∧ n ≤ 40) (hd : t.dep ≤ 40) (hsz : t.sz ≤ 199) : Wp (m_check_tree [tD t, .int n] M) (okQ fun d M1 => d = .non ∧ ∃ X, M1 = M ++ X) := by
  refine wp_mir rfl ?_
  unfold g_check_tree
  walk_at "ds"
  refine (rows_of_ok h h1 hd hsz).ok ?_
  rintro _ _ ⟨rfl, a, b, rfl⟩
  walk_at "ds"
  exact ⟨_, rfl⟩
theorem refused_no {n : Int} {t : Tr} {M : Hd} (h : TOk n t) (h1 : 1 ≤ n ∧ n ≤ 40) (hd : t.dep ≤ 40) (hsz : t.sz ≤ 199) : Wp (m__law_refused [tD t, .int n, .int 0] M) (okQ fun d M1 => d = .bl false ∧ ∃ X, M1 = M ++ X) := by
  refine wp_mir rfl ?_
  unfold g__law_refused
  have hc := check_ok (M := M) h h1 hd hsz
  generalize tD t = T at hc ⊢
  walk_at "ds"
  refine Wp.imp (Q := fun o => ∃ X, o = (Fl.rt (.bl false), M ++ X)) ?_ ?_
  · refine wp_tryAs ?_
    refine Wp.imp (Q := fun o => ∃ X, o = (Fl.rt (.bl false), M ++ X)) ?_ ?_
    · walk_at "di"
      refine hc.ok ?_
      rintro _ _ ⟨rfl, X, rfl⟩
      walk_at "di"
      exact ⟨_, rfl⟩
    rintro _ ⟨X, rfl⟩
    rw [tyQ_rt]
    exact ⟨X, rfl⟩
  rintro _ ⟨X, rfl⟩
  walk_at "ds"
  exact ⟨X, rfl⟩
theorem refused_no4 {n : Int} {d : D} {M : Hd} (h1 : 1 ≤ n ∧ n ≤ 40) : Wp (m__law_refused [d, .int n, .int 4] M) (okQ fun d M1 => d = .bl false ∧ ∃ X, M1 = M ++ X) := by
  obtain ⟨p, hp⟩ := lp_ex h1
  refine wp_mir rfl ?_
  unfold g__law_refused
  walk_at "ds"
  refine Wp.imp (Q := fun o => ∃ a b c e X, o = (Fl.nx [a, b, c, e], M ++ X)) ?_ ?_
  · refine wp_tryAs ?_
    refine Wp.imp (Q := fun o => ∃ a b c e X, o = (Fl.nx [a, b, c, e], M ++ X)) ?_ ?_
    · walk_at "di"
      rw [prime_of_lp h1 hp]
      walk_at "di"
      exact ⟨_, _, _, _, [], by rw [List.append_nil]⟩
    rintro _ ⟨a, b, c, e, X, rfl⟩
    rw [tyQ_nx]
    exact ⟨_, _, _, _, X, rfl⟩
  rintro _ ⟨a, b, c, e, X, rfl⟩
  walk_at "ds"
  exact ⟨X, rfl⟩
/-! ### any data as a table, as a node -/
def Itm (d : D) : Prop := d.flat = true ∨ ∃ l, d = .tup l
def numB (n : Int) : D → Bool
  | .int i => decide (0 ≤ i ∧ i < n)
  | _ => false
theorem is_number_itm {d : D} {n : Int} {M : Hd} (hf : Itm d) : m_is_number [d, .int n] M = some (.ok (.bl (numB n d)) M) := by
  have no : ∀ d, m_is_integer [d] M = some (.ok (.bl false) M) → m_is_number [d, .int n] M = some (.ok (.bl false) M) := fun d e => by
    refine wp_eq ?_
    refine wp_mir rfl ?_
    unfold g_is_number
    walk_at "ds"
    rw [e]
    walk_at "di"
  have ni : ∀ d, (Wp (g_is_integer (startD N_is_integer.length [d]) M) (fnQ fun o => o = .ok (.bl false) M)) → m_is_integer [d] M = some (.ok (.bl false) M) := fun d h => wp_eq (wp_mir rfl h)
  cases d with
  | int i =>
    obtain ⟨o, e, q⟩ := is_number_ok (n := i) (m := n) (M := M)
    cases o with
    | ok d M1 =>
      obtain ⟨rfl, rfl⟩ := q
      exact e
    | er c M1 => exact q.elim
  | bl b => exact no _ (ni _ (by unfold g_is_integer; walk_at "di"))
  | non => exact no _ (ni _ (by unfold g_is_integer; walk_at "di"))
  | str s => exact no _ (ni _ (by unfold g_is_integer; walk_at "di"))
  | tup l => exact no _ (ni _ (by unfold g_is_integer; walk_at "di"))
  | fl l => rcases hf with h | ⟨l, h⟩ <;> cases h
  | ref i => rcases hf with h | ⟨l, h⟩ <;> cases h
theorem wp_ifb {t : TF} {f g : SF} {r : Ev} {M : Hd} {Q : Fl × Hd → Prop} {c : Prop} (h : Wp (t r M) fun o => ∃ b, o = .ok b M ∧ (b = true ↔ c)) (hf : c → Wp (f r M) Q) (hg : ¬ c → Wp (g r M) Q) : Wp (sIf t f g r M) Q := by
  obtain ⟨o, e, b, rfl, hb⟩ := h
  unfold sIf
  rw [e, exB_ok]
  cases b with
  | true => exact hf (hb.mp rfl)
  | false => exact hg fun q => nomatch hb.mpr q
def rowB (n : Int) (k : Nat) : D → Bool
  | .tup es => decide (es.length = k) && es.all (numB n)
  | _ => false
def RowD (M : Hd) (d : D) : Prop := (∃ es, d = .tup es ∧ ∀ e ∈ es, Itm e) ∨ ∃ i l, d = .ref i ∧ M[i]? = some (.lst l)
theorem RowD.app {M X : Hd} {d : D} (h : RowD M d) : RowD (M ++ X) d := by
  rcases h with h | ⟨i, l, e, h⟩
  · exact .inl h
  · exact .inr ⟨i, l, e, get_old h⟩
def tabB (n : Int) (rows : List D) : Bool := decide (1 ≤ rows.length ∧ (rows.length : Int) ≤ n) && rows.all (rowB n rows.length)
theorem tab_any {n : Int} {rows : List D} {M : Hd} (h : ∀ d ∈ rows, RowD M d) : Wp (m_is_table [.tup rows, .int n] M) (okQ fun d M1 => M1 = M ∧ d = .bl (tabB n rows)) := by
  refine wp_mir rfl ?_
  unfold g_is_table
  have hst : startD N_is_table.length [.tup rows, .int n] = [some (.tup rows), some (.int n), none, none] := rfl
  rw [hst, wp_seq]
  refine wp_ifb (c := ¬ (1 ≤ rows.length ∧ (rows.length : Int) ≤ n)) ?_ (fun hc => ?_) (fun hc => ?_)
  · walk_at "di"
    split
    · walk_at "di"
      exact ⟨_, rfl, by simp; omega⟩
    · walk_at "di"
      exact ⟨_, rfl, by simp; omega⟩
  · walk_at "ds"
    rw [show tabB n rows = false by unfold tabB; rw [decide_eq_false hc]; rfl]
  have hc := Classical.not_not.mp hc
  walk_at "ds"
  refine wp_forL (fun i r M1 => ∃ a b, r = [some (.tup rows), some (.int n), a, b] ∧ M1 = M ∧ (rows.take i).all (rowB n rows.length) = true) ?_ ?_ ?_
  · rintro i d r M1 hd ⟨a, b, rfl, rfl, hall⟩
    have hmem := List.mem_of_getElem? hd
    refine ⟨by simp, _, rfl, ?_⟩
    have hnx : (rows.take (i + 1)).all (rowB n rows.length) = rowB n rows.length d := by
      rw [List.take_succ, hd, List.all_append, hall]
      simp
    have hno : rowB n rows.length d = false → tabB n rows = false := fun e => by
      unfold tabB
      have : rows.all (rowB n rows.length) = false := by
        rw [List.all_eq_false]
        exact ⟨d, hmem, by rw [e]; simp⟩
      rw [this, Bool.and_false]
    rw [hnx]
    rw [wp_seq]
    refine wp_ifb (c := ¬ ∃ es, d = .tup es ∧ es.length = rows.length) ?_ (fun hc => ?_) (fun hc => ?_)
    · rcases h d hmem with ⟨es, rfl, _⟩ | ⟨j, l, rfl, hj⟩
      · walk_at "di"
        exact ⟨_, rfl, by simp; omega⟩
      · walk_at "di"
        rw [isiG_ref hj]
        walk_at "di"
        exact ⟨_, rfl, by simp⟩
    · walk_at "ds"
      rw [hno]
      cases d with
      | tup es =>
        show (decide (es.length = rows.length) && es.all (numB n)) = false
        rw [decide_eq_false (fun e => hc ⟨es, rfl, e⟩)]; rfl
      | _ => rfl
    obtain ⟨es, rfl, hl⟩ := Classical.not_not.mp hc
    have hit : ∀ e ∈ es, Itm e := by
      rcases h _ hmem with ⟨es', e, hh⟩ | ⟨j, l, e, hj⟩
      · cases e
        exact hh
      · cases e
    walk_at "ds"
    refine wp_forL (fun j r M2 => ∃ b, r = [some (.tup rows), some (.int n), some (.tup es), b] ∧ M2 = M1 ∧ (es.take j).all (numB n) = true) ?_ ?_ ?_
    · rintro j d r M2 hd ⟨b, rfl, rfl, hal⟩
      have hm2 := List.mem_of_getElem? hd
      refine ⟨by simp, _, rfl, ?_⟩
      refine wp_ifb (c := ¬ numB n d = true) ?_ (fun hc => ?_) (fun hc => ?_)
      · walk_at "di"
        rw [is_number_itm (hit d hm2)]
        walk_at "di"
        exact ⟨_, rfl, by simp⟩
      · walk_at "ds"
        rw [hno]
        show (decide (es.length = rows.length) && es.all (numB n)) = false
        have : es.all (numB n) = false := by
          rw [List.all_eq_false]
          exact ⟨d, hm2, hc⟩
        rw [this, Bool.and_false]
      · walk_at "ds"
        refine ⟨_, rfl, ?_⟩
        rw [List.take_succ, hd, List.all_append, hal]
        simpa using Classical.not_not.mp hc
    · rintro r M2 ⟨b, rfl, rfl, hal⟩
      rw [List.take_length] at hal
      refine ⟨by simp, ?_⟩
      walk_at "ds"
      refine ⟨_, _, rfl, ?_⟩
      show (decide (es.length = rows.length) && es.all (numB n)) = true
      rw [hal, decide_eq_true hl]
      rfl
    · exact ⟨_, rfl, rfl, by simp⟩
  · rintro r M1 ⟨a, b, rfl, rfl, hall⟩
    rw [List.take_length] at hall
    refine ⟨by simp, ?_⟩
    walk_at "ds"
    unfold tabB
    rw [hall, decide_eq_true hc]
    rfl
  · exact ⟨none, none, rfl, rfl, by simp⟩
theorem inner_tab {n : Int} {rows : List D} {a b : D} {M : Hd} (h : ∀ d ∈ rows, RowD M d) (hn : tabB n rows = false ∨ (rows.length : Int) ≠ n) : m_is_inner [.tup [.str "node", .tup rows, a, b], .int n] M = some (.ok (.bl false) M) := by
  refine wp_eq ?_
  refine wp_mir rfl ?_
  unfold g_is_inner
  walk_at "sx"
  refine (tab_any h).ok ?_
  rintro _ _ ⟨rfl, rfl⟩
  walk_at "sx"
  rcases hn with hn | hn
  · rw [hn]
    simp
  · split
    · rw [decide_eq_false hn]
    · trivial
theorem inner_tref {n : Int} {i : Nat} {l : List D} {a b : D} {M : Hd} (h : M[i]? = some (.lst l)) : m_is_inner [.tup [.str "node", .ref i, a, b], .int n] M = some (.ok (.bl false) M) := by
  have ht : Wp (m_is_table [.ref i, .int n] M) (okQ fun d M1 => M1 = M ∧ d = .bl false) := by
    refine wp_mir rfl ?_
    unfold g_is_table
    walk_at "di"
    rw [isiG_ref h]
    walk_at "di"
  refine wp_eq ?_
  refine wp_mir rfl ?_
  unfold g_is_inner
  walk_at "sx"
  refine ht.ok ?_
  rintro _ _ ⟨rfl, rfl⟩
  walk_at "sx"
/-! ### what is no tree -/
theorem nt_of {n : Int} {M : Hd} {d : D} (h1 : ∀ X, Wp (m_is_leaf [d, .int n] (M ++ X)) (fun o => o = .ok (.bl false) (M ++ X))) (h2 : ∀ X, Wp (m_is_inner [d, .int n] (M ++ X)) (fun o => o = .ok (.bl false) (M ++ X))) : NoTree n M d := fun X => ⟨wp_eq (h1 X), wp_eq (h2 X)⟩
theorem nt_ref {n : Int} {M : Hd} {i : Nat} {l : List D} (h : M[i]? = some (.lst l)) : NoTree n M (.ref i) := by
  refine nt_of (fun X => ?_) (fun X => ?_)
  · have h := get_old (Z := X) h
    generalize M ++ X = M at h ⊢
    refine wp_mir rfl ?_
    unfold g_is_leaf
    walk_at "di"
    rw [isiG_ref h]
    walk_at "di"
  · have h := get_old (Z := X) h
    generalize M ++ X = M at h ⊢
    refine wp_mir rfl ?_
    unfold g_is_inner
    walk_at "di"
    rw [isiG_ref h]
    walk_at "di"
theorem nt_non {n : Int} {M : Hd} : NoTree n M .non := by
  refine nt_of (fun X => wp_mir rfl ?_) (fun X => wp_mir rfl ?_)
  · unfold g_is_leaf
    walk_at "sx"
  · unfold g_is_inner
    walk_at "sx"
theorem nt_int {n i : Int} {M : Hd} : NoTree n M (.int i) := by
  refine nt_of (fun X => wp_mir rfl ?_) (fun X => wp_mir rfl ?_)
  · unfold g_is_leaf
    walk_at "sx"
  · unfold g_is_inner
    walk_at "sx"
theorem nt_nil {n : Int} {M : Hd} : NoTree n M (.tup []) := by
  refine nt_of (fun X => wp_mir rfl ?_) (fun X => wp_mir rfl ?_)
  · unfold g_is_leaf
    walk_at "sx"
  · unfold g_is_inner
    walk_at "sx"
theorem nt_one {n : Int} {a : D} {M : Hd} : NoTree n M (.tup [a]) := by
  refine nt_of (fun X => wp_mir rfl ?_) (fun X => wp_mir rfl ?_)
  · unfold g_is_leaf
    walk_at "sx"
  · unfold g_is_inner
    walk_at "sx"
theorem nt_three {n : Int} {a b c : D} {M : Hd} : NoTree n M (.tup [a, b, c]) := by
  refine nt_of (fun X => wp_mir rfl ?_) (fun X => wp_mir rfl ?_)
  · unfold g_is_leaf
    walk_at "sx"
  · unfold g_is_inner
    walk_at "sx"
theorem nt_five {n : Int} {a b c d e : D} {M : Hd} : NoTree n M (.tup [a, b, c, d, e]) := by
  refine nt_of (fun X => wp_mir rfl ?_) (fun X => wp_mir rfl ?_)
  · unfold g_is_leaf
    walk_at "sx"
  · unfold g_is_inner
    walk_at "sx"
theorem inner_two {n : Int} {a b : D} {M : Hd} : Wp (m_is_inner [.tup [a, b], .int n] M) (fun o => o = .ok (.bl false) M) := by
  refine wp_mir rfl ?_
  unfold g_is_inner
  walk_at "sx"
theorem leaf_four {n : Int} {a b c d : D} {M : Hd} : Wp (m_is_leaf [.tup [a, b, c, d], .int n] M) (fun o => o = .ok (.bl false) M) := by
  refine wp_mir rfl ?_
  unfold g_is_leaf
  walk_at "sx"
theorem nt_word {n : Int} {a : D} {M : Hd} {x : Str} (hx : ¬ x = "leaf") : NoTree n M (.tup [.str x, a]) := by
  refine nt_of (fun X => wp_mir rfl ?_) (fun X => inner_two)
  unfold g_is_leaf
  walk_at "di"
  rw [if_pos hx]
  split <;> trivial
theorem nt_leaf {n : Int} {a : D} {M : Hd} (ha : Itm a) (hb : numB n a = false) : NoTree n M (.tup [.str "leaf", a]) := by
  refine nt_of (fun X => wp_mir rfl ?_) (fun X => inner_two)
  unfold g_is_leaf
  walk_at "sx"
  rw [is_number_itm ha, hb]
  walk_at "sx"
theorem nt_Word {n : Int} {a b c : D} {M : Hd} {x : Str} (hx : ¬ x = "node") : NoTree n M (.tup [.str x, a, b, c]) := by
  refine nt_of (fun X => leaf_four) (fun X => wp_mir rfl ?_)
  unfold g_is_inner
  walk_at "di"
  rw [if_pos hx]
  split <;> trivial
theorem nt_tab {n : Int} {rows : List D} {a b : D} {M : Hd} (h : ∀ d ∈ rows, RowD M d) (hn : tabB n rows = false ∨ (rows.length : Int) ≠ n) : NoTree n M (.tup [.str "node", .tup rows, a, b]) := by
  refine nt_of (fun X => leaf_four) (fun X => ?_)
  rw [inner_tab (fun d hd => (h d hd).app) hn, wp_some]
theorem nt_tref {n : Int} {i : Nat} {l : List D} {a b : D} {M : Hd} (h : M[i]? = some (.lst l)) : NoTree n M (.tup [.str "node", .ref i, a, b]) := by
  refine nt_of (fun X => leaf_four) (fun X => ?_)
  rw [inner_tref (get_old h), wp_some]
/-- a right table over another number of values -/
theorem nt_other {n v : Int} {tb : List (List Int)} {a b : D} {M : Hd} (h : TbOk n tb) (hv : n ≠ v) : NoTree v M (.tup [.str "node", tbD tb, a, b]) := by
  refine nt_tab (fun d hd => ?_) (.inr ?_)
  · obtain ⟨row, hr, rfl⟩ := List.mem_map.mp hd
    exact .inl ⟨_, rfl, fun e he => by
      obtain ⟨i, _, rfl⟩ := List.mem_map.mp he
      exact .inl rfl⟩
  · rw [List.length_map, h.l]
    exact hv
/-! ### spoilt tables -/
theorem kpR {M M1 R X : Hd} {i : Nat} {o : O} (h : Dr M R) (h1 : Dr M1 (R ++ X)) (hi : 2 ≤ i) (e : M[i]? = some o) : M1[i]? = some o := by
  obtain ⟨j, rfl⟩ : ∃ j, i = j + 2 := ⟨i - 2, by omega⟩
  rw [h1.get]
  rw [h.get] at e
  exact get_app_l e
theorem bad_number_ok {M R : Hd} {n : Int} (h : Dr M R) (hn : 1 ≤ n ∧ n ≤ 40) : Wp (m__law_bad_number [.ref 1, .int n] M) (okQ fun d M1 => Itm d ∧ numB n d = false ∧ ∃ X, Dr M1 (R ++ X)) := by
  refine wp_mir rfl ?_
  unfold g__law_bad_number
  walk_at "ds"
  have e40 : shlG (.int 1) (.int 40) M = some (.ok (.int 1099511627776) M) := by
    unfold shlG
    dsimp only
    rw [if_pos (by decide)]
    rfl
  rw [e40]
  walk_at "ds"
  have hl := h.len
  have hD := h.app [O.lst [.int (-1), .int n, .bl true, .str "0", .non, .int 1099511627776]]
  refine (draw_ok hD).ok ?_
  rintro _ M1 ⟨x, rfl, _, _, hD⟩
  have g : M1[M.length]? = some (O.lst [.int (-1), .int n, .bl true, .str "0", .non, .int 1099511627776]) := by rw [hl, hD.get]; exact get_app
  walk_at "ds"
  rw [g]
  dsimp only
  have hc : x % 6 = 0 ∨ x % 6 = 1 ∨ x % 6 = 2 ∨ x % 6 = 3 ∨ x % 6 = 4 ∨ x % 6 = 5 := by omega
  obtain ⟨d, hd, h1, h2⟩ : ∃ d, atI [D.int (-1), .int n, .bl true, .str "0", .non, .int 1099511627776] (x % 6) = some d ∧ Itm d ∧ numB n d = false := by
    rcases hc with e | e | e | e | e | e <;> rw [e]
    · exact ⟨_, atI_nn (by decide) rfl, .inl rfl, by unfold numB; simp⟩
    · exact ⟨_, atI_nn (by decide) rfl, .inl rfl, by unfold numB; simp⟩
    · exact ⟨_, atI_nn (by decide) rfl, .inl rfl, rfl⟩
    · exact ⟨_, atI_nn (by decide) rfl, .inl rfl, rfl⟩
    · exact ⟨_, atI_nn (by decide) rfl, .inl rfl, rfl⟩
    · exact ⟨_, atI_nn (by decide) rfl, .inl rfl, by unfold numB; simp; omega⟩
  rw [hd]
  walk_at "ds"
  exact ⟨h1, h2, _, hD⟩
def BadT (n : Int) (M : Hd) (d : D) : Prop := (∃ rows, d = .tup rows ∧ (∀ x ∈ rows, RowD M x) ∧ (tabB n rows = false ∨ (rows.length : Int) ≠ n)) ∨ ∃ i l, d = .ref i ∧ M[i]? = some (.lst l)
theorem BadT.no {n : Int} {M : Hd} {d a b : D} (h : BadT n M d) : NoTree n M (.tup [.str "node", d, a, b]) := by
  rcases h with ⟨rows, rfl, h1, h2⟩ | ⟨i, l, rfl, h⟩
  · exact nt_tab h1 h2
  · exact nt_tref h
/-- copies of the rows -/
theorem copies_ok {M : Hd} {tb : List (List Int)} {r : Ev} {v w : Nat} {own : List Nat} (hr : r[v]? = some (some (tbD tb))) (hl : tb.length ≤ 1000) (hw : (wip r own)[w]? ≠ none) : Wp (eLc (seqI (eVar v)) (.nm w) tYes (eUn listG (eVar w)) own r M) (okQ fun d M1 => d = .ref M.length ∧ ∃ (L : List D) (Z : Hd), M1 = M ++ .lst L :: Z ∧ L.length = tb.length ∧ ∀ (k : Nat) (d : D), L[k]? = some d → ∃ j, d = .ref (M.length + 1 + j) ∧ Z[j]? = some (.lst ((tb.getD k []).map D.int))) := by
  refine wp_eLc ?_
  have e : seqI (eVar v) r M = some (.ok (tb.map rowD, []) M) := by
    unfold seqI eVar
    rw [hr]
    rfl
  rw [e, wp_some]
  dsimp only
  refine wp_lcL (fun i M1 => ∃ (L : List D) (Z : Hd), M1 = M ++ .lst L :: Z ∧ L.length = i ∧ ∀ (k : Nat) (d : D), L[k]? = some d → ∃ j, d = .ref (M.length + 1 + j) ∧ Z[j]? = some (.lst ((tb.getD k []).map D.int))) ?_ ?_ ?_
  · rintro i d M1 hd ⟨L, Z, rfl, hL, hall⟩
    rw [List.getElem?_map] at hd
    obtain ⟨row, hrow, rfl⟩ := Option.map_eq_some_iff.mp hd
    have hil : i < tb.length := (List.getElem?_eq_some_iff.mp hrow).1
    have hw2 : w < (wip r own).length := by
      rcases Nat.lt_or_ge w (wip r own).length with h | h
      · exact h
      · exact absurd (List.getElem?_eq_none h) hw
    refine ⟨by simp, (wip r own).set w (some (rowD row)), rfl, ?_⟩
    unfold tYes
    rw [wp_some]
    show (true = false → _) ∧ (true = true → _)
    refine ⟨(fun h => nomatch h), fun _ => ?_⟩
    have e2 : eUn listG (eVar w) ((wip r own).set w (some (rowD row))) (M ++ O.lst L :: Z) = some (.ok (.ref (M ++ O.lst L :: Z).length) (M ++ O.lst L :: Z ++ [.lst (row.map D.int)])) := by
      unfold eUn eVar
      rw [List.getElem?_set_self hw2]
      rfl
    rw [e2, wp_some]
    refine ⟨L, get_old get_here, by omega, L ++ [.ref (M ++ O.lst L :: Z).length], Z ++ [.lst (row.map D.int)], ?_, by simp [hL], ?_⟩
    · rw [List.append_assoc, List.cons_append, set_here]
    · intro k d hk
      rcases Nat.lt_or_ge k L.length with hkl | hkl
      · rw [List.getElem?_append_left hkl] at hk
        obtain ⟨j, rfl, hj⟩ := hall k d hk
        exact ⟨j, rfl, get_old hj⟩
      · have hk2 : k < (L ++ [D.ref (M ++ O.lst L :: Z).length]).length := (List.getElem?_eq_some_iff.mp hk).1
        have hkL : k = L.length := by simp at hk2; omega
        subst hkL
        rw [List.getElem?_concat_length] at hk
        cases hk
        refine ⟨Z.length, by simp; omega, ?_⟩
        rw [List.getElem?_concat_length, List.getD_eq_getElem?_getD, hL, hrow]
        rfl
  · rintro M1 ⟨L, Z, rfl, hL, hall⟩
    rw [List.length_map] at hL
    refine ⟨by simp, ?_⟩
    exact ⟨rfl, L, Z, rfl, hL, hall⟩
  · exact ⟨[], [], rfl, rfl, fun k d hk => by simp at hk⟩
/-- the rows as tuples again -/
def asT (M : Hd) (d : D) : D := match d with
  | .ref q => match M[q]? with
    | some (.lst l) => .tup l
    | _ => d
  | _ => d
theorem asT_app {M X : Hd} {d : D} (h : ∃ q l, d = .ref q ∧ M[q]? = some (.lst l)) : asT (M ++ X) d = asT M d := by
  obtain ⟨q, l, rfl, h⟩ := h
  unfold asT
  dsimp only
  rw [h, get_old h]
theorem tuples_ok {M : Hd} {L : List D} {p : Nat} {r : Ev} {v w : Nat} {own : List Nat} (hr : r[v]? = some (some (.ref p))) (hp : M[p]? = some (.lst L)) (hl : L.length ≤ 1000) (hL : ∀ d ∈ L, ∃ q l, d = .ref q ∧ M[q]? = some (.lst l)) (hw : w < (wip r own).length) : Wp (eLc (seqI (eVar v)) (.nm w) tYes (eUn tupleG (eVar w)) own r M) (okQ fun d M1 => d = .ref M.length ∧ ∃ Z, M1 = M ++ .lst (L.map (asT M)) :: Z) := by
  refine (wp_comp (M := M) (gs := [(p, L)]) (ds := L) (keep := fun _ => true) (val := asT M) ?_ (fun X => by simp only [still_one, still_nil, and_true]; exact get_old hp) (by omega) ?_).ok ?_
  · unfold seqI eVar
    rw [hr]
    simp only [bnd_ok]
    rw [hp]
  · intro d hd X
    obtain ⟨q, l, rfl, hq⟩ := hL d hd
    refine ⟨_, rfl, ?_⟩
    unfold tYes
    rw [wp_some]
    refine ⟨rfl, [], by rw [List.append_nil], fun _ => ?_⟩
    have e2 : eUn tupleG (eVar w) ((wip r own).set w (some (.ref q))) (M ++ X) = some (.ok (.tup l) (M ++ X)) := by
      unfold eUn eVar
      rw [List.getElem?_set_self hw]
      simp only [bnd_ok]
      exact tuple_ref (get_old hq)
    rw [e2, wp_some]
    refine ⟨?_, [], by rw [List.append_nil]⟩
    unfold asT
    dsimp only
    rw [hq]
  · rintro _ _ ⟨rfl, Z, rfl⟩
    rw [List.filter_eq_self.mpr (fun _ _ => rfl)]
    exact ⟨rfl, Z, rfl⟩
theorem cut_to' {ds : List D} {a : Int} (h : 0 ≤ a ∧ a ≤ ds.length) : cutD ds none (some a) = ds.take a.toNat := by
  unfold cutD HT.sIx
  dsimp only
  rw [if_neg (by omega), Nat.min_eq_left (by omega), List.drop_zero, Nat.sub_zero]
theorem add_tup' {a b : List D} {M : Hd} (h : a.length + b.length ≤ 16777216) : addG (.tup a) (.tup b) M = some (.ok (.tup (a ++ b)) M) := by
  unfold addG
  dsimp only
  rw [if_pos h]
theorem add_ref' {M : Hd} {p q : Nat} {a b : List D} (ha : M[p]? = some (.lst a)) (hb : M[q]? = some (.lst b)) (hl : a.length + b.length ≤ 16777216) : addG (.ref p) (.ref q) M = some (.ok (.ref M.length) (M ++ [.lst (a ++ b)])) := by
  unfold addG
  dsimp only
  rw [ha, hb]
  dsimp only
  rw [if_pos hl]
theorem slice_ref' {M : Hd} {i : Nat} {ds : List D} (e : M[i]? = some (.lst ds)) {l u : Option Int} : sliceD (.ref i) l u M = some (.ok (.ref M.length) (M ++ [.lst (cutD ds l u)])) := by
  unfold sliceD
  dsimp only
  rw [e]
theorem ixN_okN {n : Nat} {c : Int} (h0 : 0 ≤ c) (h1 : c < n) : ixN n c = some c.toNat := by
  unfold ixN
  rw [if_pos h0, if_pos h1]
theorem set_mid3 {A Z B C : Hd} {a o : O} : (A ++ a :: Z ++ B ++ C).set A.length o = A ++ (o :: (Z ++ B ++ C)) := by simp
theorem rowB_of {n : Int} {k : Nat} {l : List D} (h : l.length ≠ k ∨ ∃ e ∈ l, numB n e = false) : rowB n k (.tup l) = false := by
  show (decide (l.length = k) && l.all (numB n)) = false
  rcases h with h | ⟨e, he, hb⟩
  · rw [decide_eq_false h]
    rfl
  · have : l.all (numB n) = false := by
      rw [List.all_eq_false]
      exact ⟨e, he, by rw [hb]; simp⟩
    rw [this, Bool.and_false]
theorem tabB_of {n : Int} {rows : List D} (h : ∃ d ∈ rows, rowB n rows.length d = false) : tabB n rows = false := by
  obtain ⟨d, hd, hb⟩ := h
  unfold tabB
  have : rows.all (rowB n rows.length) = false := by
    rw [List.all_eq_false]
    exact ⟨d, hd, by rw [hb]; simp⟩
  rw [this, Bool.and_false]
theorem itm_ints {l : List Int} : ∀ e ∈ l.map D.int, Itm e := fun e he => by
  obtain ⟨i, _, rfl⟩ := List.mem_map.mp he
  exact .inl rfl
theorem rowD_tb {M : Hd} {tb : List (List Int)} : ∀ d ∈ tb.map rowD, RowD M d := fun d hd => by
  obtain ⟨row, _, rfl⟩ := List.mem_map.mp hd
  exact .inl ⟨_, rfl, itm_ints⟩
theorem bad_table_ok {n : Int} {tb : List (List Int)} {M R : Hd} (h : Dr M R) (ht : TbOk n tb) (hn : 1 ≤ n ∧ n ≤ 40) : Wp (m__law_bad_table [.ref 1, tbD tb, .int n] M) (okQ fun d M1 => BadT n M1 d ∧ ∃ X, Dr M1 (R ++ X)) := by
  have htl := ht.l
  refine wp_mir rfl ?_
  unfold g__law_bad_table
  have hst : startD N__law_bad_table.length [.ref 1, tbD tb, .int n] = [some (.ref 1), some (tbD tb), some (.int n), none, none, none, none, none] := rfl
  rw [hst]
  generalize hT : tbD tb = T
  walk_at "ds"
  subst hT
  refine (copies_ok (own := [6]) (tb := tb) rfl (by omega) (by simp [wip])).ok ?_
  rintro _ _ ⟨rfl, L, Z, rfl, hL, hrows⟩
  have hl := h.len
  have hD := h.app (O.lst L :: Z)
  generalize hT : tbD tb = T
  walk_at "ds"
  refine (draw_ok hD).ok ?_
  rintro _ M2 ⟨x, rfl, x0, x1, hD⟩
  walk_at "ds"
  refine (draw_ok hD).ok ?_
  rintro _ M3 ⟨y, rfl, y0, y1, hD⟩
  walk_at "ds"
  rw [modG_ok (by omega)]
  walk_at "ds"
  have hat : 0 ≤ y % n ∧ y % n < n := ⟨Int.emod_nonneg _ (by omega), Int.emod_lt_of_pos _ (by omega)⟩
  generalize y % n = at_ at hat ⊢
  have hpk : 0 ≤ x % 7 ∧ x % 7 ≤ 6 := by omega
  generalize x % 7 = pk at hpk ⊢
  subst hT
  have gL : M3[M.length]? = some (.lst L) := by rw [hl, hD.get]; exact get_mid
  have gR : ∀ k d, L[k]? = some d → ∃ q, d = .ref q ∧ M.length < q ∧ M3[q]? = some (.lst ((tb.getD k []).map D.int)) := fun k d hk => by
    obtain ⟨j, rfl, hj⟩ := hrows k d hk
    refine ⟨_, rfl, by omega, ?_⟩
    rw [show M.length + 1 + j = (R.length + 1 + j) + 2 by omega, hD.get, List.getElem?_append_right (by omega), show R.length + 1 + j - R.length = j + 1 by omega]
    exact hj
  have hRef : ∀ d ∈ L, ∃ q, d = .ref q ∧ M.length < q ∧ ∃ row ∈ tb, M3[q]? = some (.lst (row.map D.int)) := fun d hd => by
    obtain ⟨k, hk⟩ := List.getElem?_of_mem hd
    obtain ⟨q, rfl, h1, h2⟩ := gR k d hk
    have hkl : k < tb.length := by rw [← hL]; exact (List.getElem?_eq_some_iff.mp hk).1
    refine ⟨q, rfl, h1, tb.getD k [], ?_, h2⟩
    rw [List.getD_eq_getElem?_getD, List.getElem?_eq_getElem hkl]
    exact List.getElem_mem hkl
  have fin : ∀ (M4 : Hd) (X Z4 : Hd) (L' : List D), Dr M4 (R ++ X) → (L'.length : Int) = n → (∀ d ∈ L', ∃ q l, d = .ref q ∧ M4[q]? = some (.lst l) ∧ ∀ e ∈ l, Itm e) → (∃ d ∈ L', rowB n L'.length (asT M4 d) = false) → BadT n (M4 ++ .lst (L'.map (asT M4)) :: Z4) (.tup (L'.map (asT M4))) ∧ ∃ X, Dr (M4 ++ .lst (L'.map (asT M4)) :: Z4) (R ++ X) := by
    intro M4 X Z4 L' hD h1 h2 h3
    refine ⟨.inl ⟨_, rfl, fun d hd => ?_, .inl (tabB_of ?_)⟩, X ++ O.lst (L'.map (asT M4)) :: Z4, by rw [← List.append_assoc]; exact hD.app _⟩
    · obtain ⟨d0, hd0, rfl⟩ := List.mem_map.mp hd
      obtain ⟨q, l, rfl, e2, hi⟩ := h2 d0 hd0
      refine .inl ⟨l, ?_, hi⟩
      unfold asT
      dsimp only
      rw [e2]
    · obtain ⟨d0, hd0, hb⟩ := h3
      refine ⟨_, List.mem_map.mpr ⟨d0, hd0, rfl⟩, ?_⟩
      rw [List.length_map]
      exact hb
  have hnn : ∀ (X : Hd), Dr M3 (R ++ X) → Dr M3 (R ++ X) := fun _ h => h
  refine wp_ifb (c := pk = 0) ?_ (fun hc => ?_) (fun hc0 => ?_)
  · walk_at "di"
    exact ⟨_, rfl, by rw [decide_eq_true_iff]⟩
  · have hne : tb ≠ [] := fun e => by rw [e] at htl; simp at htl; omega
    obtain ⟨row, rest, rfl⟩ := List.exists_cons_of_ne_nil hne
    unfold tbD
    walk_at "ds"
    have hrl : (row :: rest).length ≤ 40 := by omega
    rw [add_tup' (by simp at hrl ⊢; omega)]
    walk_at "ds"
    refine ⟨.inl ⟨_, rfl, fun d hd => ?_, .inr ?_⟩, _, hD⟩
    · refine rowD_tb (tb := row :: rest ++ [row]) d ?_
      rw [List.map_append]
      exact hd
    · simp only [List.length_append, List.length_cons, List.length_nil, List.length_map] at htl ⊢
      omega
  refine wp_nil ?_
  rw [wp_seq]
  refine wp_ifb (c := pk = 1) ?_ (fun hc => ?_) (fun hc1 => ?_)
  · walk_at "di"
    exact ⟨_, rfl, by rw [decide_eq_true_iff]⟩
  · unfold tbD
    walk_at "ds"
    rw [show sliceD (.tup (tb.map rowD)) none (some (n - 1)) M3 = some (.ok (.tup (cutD (tb.map rowD) none (some (n - 1)))) M3) from rfl, cut_to' (by rw [List.length_map]; omega)]
    walk_at "ds"
    exact ⟨.inl ⟨_, rfl, fun d hd => rowD_tb d (List.mem_of_mem_take hd), .inr (by rw [List.length_take, List.length_map]; omega)⟩, _, hD⟩
  refine wp_nil ?_
  rw [wp_seq]
  refine wp_ifb (c := pk = 2) ?_ (fun hc => ?_) (fun hc2 => ?_)
  · walk_at "di"
    exact ⟨_, rfl, by rw [decide_eq_true_iff]⟩
  · have hk : L[at_.toNat]? = some L[at_.toNat] := List.getElem?_eq_getElem (by omega)
    obtain ⟨q, hq0, hq1, hq2⟩ := gR _ _ hk
    rw [hq0] at hk
    generalize hT : tbD tb = T
    walk_at "ds"
    rw [gL]
    walk_at "ds"
    rw [atI_nn hat.1 hk]
    walk_at "ds"
    have hrm := (row_mem ht hat).2
    have hrl := (ht.r _ hrm).1
    generalize tb.getD at_.toNat [] = row at hrm hrl hq2
    rw [add_ref' (get_old hq2) get_here (by simp; omega)]
    walk_at "ds"
    rw [show (M3 ++ [O.lst [D.int 0]] ++ [O.lst (row.map D.int ++ [D.int 0])])[M.length]? = some (O.lst L) from get_old (get_old gL)]
    walk_at "ds"
    rw [ixN_okN hat.1 (by omega)]
    walk_at "ds"
    subst hT
    have hlt : (M3 ++ [O.lst [D.int 0]]).length ≠ M.length := by
      have h1 : M.length < M3.length := (List.getElem?_eq_some_iff.mp gL).1
      simp
      omega
    have hD2 := (((hD.app [O.lst [D.int 0]]).app [O.lst (row.map D.int ++ [D.int 0])])).set R.length (.lst (L.set at_.toNat (.ref (M3 ++ [O.lst [D.int 0]]).length)))
    rw [set_mid3, ← hl] at hD2
    have g2 : ((M3 ++ [O.lst [D.int 0]] ++ [O.lst (row.map D.int ++ [D.int 0])]).set M.length (.lst (L.set at_.toNat (.ref (M3 ++ [O.lst [D.int 0]]).length))))[(M3 ++ [O.lst [D.int 0]]).length]? = some (.lst (row.map D.int ++ [D.int 0])) := by
      rw [List.getElem?_set_ne (Ne.symm hlt)]
      exact get_here
    have g3 : ((M3 ++ [O.lst [D.int 0]] ++ [O.lst (row.map D.int ++ [D.int 0])]).set M.length (.lst (L.set at_.toNat (.ref (M3 ++ [O.lst [D.int 0]]).length))))[M.length]? = some (.lst (L.set at_.toNat (.ref (M3 ++ [O.lst [D.int 0]]).length))) := by
      rw [List.getElem?_set_self]
      have h1 : M.length < M3.length := (List.getElem?_eq_some_iff.mp gL).1
      simp
      omega
    have g4 : ∀ q l, M.length < q → M3[q]? = some (.lst l) → ((M3 ++ [O.lst [D.int 0]] ++ [O.lst (row.map D.int ++ [D.int 0])]).set M.length (.lst (L.set at_.toNat (.ref (M3 ++ [O.lst [D.int 0]]).length))))[q]? = some (.lst l) := fun q l h1 h2 => by
      rw [List.getElem?_set_ne (by omega)]
      exact get_old (get_old h2)
    have hitm : ∀ e ∈ row.map D.int ++ [D.int 0], Itm e := fun e he => by
      rcases List.mem_append.mp he with he | he
      · exact itm_ints e he
      · rw [List.mem_singleton] at he
        rw [he]
        exact .inl rfl
    have hp : (M3 ++ [O.lst [D.int 0]]).length = M3.length + 1 := by simp
    generalize (M3 ++ [O.lst [D.int 0]] ++ [O.lst (row.map D.int ++ [D.int 0])]).set M.length (.lst (L.set at_.toNat (.ref (M3 ++ [O.lst [D.int 0]]).length))) = M6 at hD2 g2 g3 g4 ⊢
    generalize (M3 ++ [O.lst [D.int 0]]).length = np at hD2 g2 g3 g4 hlt ⊢
    have h2 : ∀ d ∈ L.set at_.toNat (.ref np), ∃ q l, d = .ref q ∧ M6[q]? = some (.lst l) ∧ ∀ e ∈ l, Itm e := fun d hd => by
      rcases List.mem_or_eq_of_mem_set hd with hd | rfl
      · obtain ⟨q, rfl, h1, row, _, h2⟩ := hRef d hd
        exact ⟨q, _, rfl, g4 q _ h1 h2, itm_ints⟩
      · exact ⟨_, _, rfl, g2, hitm⟩
    generalize hT : tbD tb = T
    walk_at "ds"
    refine (tuples_ok (own := [6]) rfl g3 (by rw [List.length_set]; omega) (fun d hd => by obtain ⟨q, l, e, e2, _⟩ := h2 d hd; exact ⟨q, l, e, e2⟩) (by simp [wip])).ok ?_
    rintro _ _ ⟨rfl, Z4, rfl⟩
    walk_at "ds"
    rw [tuple_ref get_here]
    walk_at "ds"
    refine fin _ _ _ _ hD2 (by rw [List.length_set]; omega) h2 ⟨.ref np, ?_, ?_⟩
    · exact List.mem_set (by omega) _
    · unfold asT
      dsimp only
      rw [g2]
      exact rowB_of (.inl (by rw [List.length_set]; simp; omega))
  refine wp_ifb (c := pk = 3) ?_ (fun hc => ?_) (fun hc3 => ?_)
  · walk_at "di"
    exact ⟨_, rfl, by rw [decide_eq_true_iff]⟩
  · generalize hT : tbD tb = T
    walk_at "ds"
    refine (bad_number_ok hD hn).ok ?_
    rintro b M4 ⟨hb1, hb2, X4, hD4⟩
    walk_at "ds"
    have hk : L[at_.toNat]? = some L[at_.toNat] := List.getElem?_eq_getElem (by omega)
    obtain ⟨q, hq0, hq1, hq2⟩ := gR _ _ hk
    rw [hq0] at hk
    have hrm := (row_mem ht hat).2
    have hrl := (ht.r _ hrm).1
    generalize tb.getD at_.toNat [] = row at hrm hrl hq2
    rw [kpR hD hD4 (by omega) gL]
    walk_at "ds"
    rw [atI_nn hat.1 hk]
    walk_at "ds"
    refine (draw_ok hD4).ok ?_
    rintro _ M5 ⟨z, rfl, _, _, hD5⟩
    walk_at "ds"
    rw [modG_ok (by omega)]
    walk_at "ds"
    have hz : 0 ≤ z % n ∧ z % n < n := ⟨Int.emod_nonneg _ (by omega), Int.emod_lt_of_pos _ (by omega)⟩
    generalize z % n = j at hz ⊢
    have k5 : ∀ {i o}, 2 ≤ i → M3[i]? = some o → M5[i]? = some o := fun hi e => kpR (X := []) hD4 (by rw [List.append_nil]; exact hD5) hi (kpR hD hD4 hi e)
    rw [k5 (by omega) hq2]
    walk_at "ds"
    rw [ixN_okN hz.1 (by rw [List.length_map]; omega)]
    walk_at "ds"
    have hjl : j.toNat < (row.map D.int).length := by rw [List.length_map]; omega
    have hql : q < M5.length := (List.getElem?_eq_some_iff.mp (k5 (by omega) hq2)).1
    have hLM := k5 (by omega) gL
    have hrs : ∀ d ∈ L, ∃ q' l, d = .ref q' ∧ M.length < q' ∧ M5[q']? = some (.lst l) ∧ ∀ e ∈ l, Itm e := fun d hd => by
      obtain ⟨q', e, h1, row, _, h2⟩ := hRef d hd
      exact ⟨q', _, e, h1, k5 (by omega) h2, itm_ints⟩
    have hitm : ∀ e ∈ (row.map D.int).set j.toNat b, Itm e := fun e he => by
      rcases List.mem_or_eq_of_mem_set he with he | rfl
      · exact itm_ints e he
      · exact hb1
    obtain ⟨q0, rfl⟩ : ∃ q0, q = q0 + 2 := ⟨q - 2, by omega⟩
    have hD6 := hD5.set q0 (.lst ((row.map D.int).set j.toNat b))
    have gq : (M5.set (q0 + 2) (.lst ((row.map D.int).set j.toNat b)))[q0 + 2]? = some (.lst ((row.map D.int).set j.toNat b)) := List.getElem?_set_self hql
    have gLs : (M5.set (q0 + 2) (.lst ((row.map D.int).set j.toNat b)))[M.length]? = some (.lst L) := by
      rw [List.getElem?_set_ne (by omega)]
      exact hLM
    have h2 : ∀ d ∈ L, ∃ q l, d = .ref q ∧ (M5.set (q0 + 2) (.lst ((row.map D.int).set j.toNat b)))[q]? = some (.lst l) ∧ ∀ e ∈ l, Itm e := fun d hd => by
      obtain ⟨q', l, e, h1, h2, h3⟩ := hrs d hd
      by_cases hqq : q' = q0 + 2
      · exact ⟨q', _, e, by rw [hqq]; exact gq, hitm⟩
      · exact ⟨q', l, e, by rw [List.getElem?_set_ne (Ne.symm hqq)]; exact h2, h3⟩
    have hset : ∀ (X : Hd) (o : O), (R ++ O.lst L :: Z ++ X).set q0 o = R ++ ((O.lst L :: Z ++ X).set (q0 - R.length) o) := fun X o => by
      rw [List.append_assoc, List.set_append, if_neg (by omega)]
    rw [hset] at hD6
    generalize M5.set (q0 + 2) (.lst ((row.map D.int).set j.toNat b)) = M6 at hD6 gq gLs h2 ⊢
    refine (tuples_ok (own := [6]) rfl gLs (by omega) (fun d hd => by obtain ⟨q, l, e, e2, _⟩ := h2 d hd; exact ⟨q, l, e, e2⟩) (by simp [wip])).ok ?_
    rintro _ _ ⟨rfl, Z4, rfl⟩
    walk_at "ds"
    rw [tuple_ref get_here]
    walk_at "ds"
    refine fin _ _ _ _ hD6 (by omega) h2 ⟨.ref (q0 + 2), List.mem_of_getElem? hk, ?_⟩
    unfold asT
    dsimp only
    rw [gq]
    exact rowB_of (.inr ⟨b, List.mem_set hjl _, hb2⟩)
  refine wp_ifb (c := pk = 4) ?_ (fun hc => ?_) (fun hc4 => ?_)
  · walk_at "di"
    exact ⟨_, rfl, by rw [decide_eq_true_iff]⟩
  · generalize hT : tbD tb = T
    walk_at "ds"
    rw [tuple_ref gL]
    walk_at "ds"
    have h0 : L[0]? = some L[0] := List.getElem?_eq_getElem (by omega)
    obtain ⟨q, e, _⟩ := gR _ _ h0
    refine ⟨.inl ⟨_, rfl, fun d hd => ?_, .inl (tabB_of ⟨L[0], List.getElem_mem _, by rw [e]; rfl⟩)⟩, _, hD⟩
    obtain ⟨q, rfl, _, row, _, hq⟩ := hRef d hd
    exact .inr ⟨q, _, rfl, hq⟩
  refine wp_ifb (c := pk = 5) ?_ (fun hc => ?_) (fun hc5 => ?_)
  · walk_at "di"
    exact ⟨_, rfl, by rw [decide_eq_true_iff]⟩
  · generalize hT : tbD tb = T
    walk_at "ds"
    refine Wp.ok (P := fun d M1 => d = .ref (M3 ++ [O.lst (L.take (n - 1).toNat)]).length ∧ ∃ (acc : List D) (Z5 : Hd), M1 = M3 ++ [O.lst (L.take (n - 1).toNat)] ++ .lst acc :: Z5 ∧ acc.length = (n - 1).toNat ∧ ∀ d ∈ acc, ∃ es, d = .tup es ∧ ∀ e ∈ es, Itm e) ?_ ?_
    · refine wp_eLc ?_
      have hcut : cutD L none (some (n - 1)) = L.take (n - 1).toNat := cut_to' (by omega)
      simp only [seqI, eSl, oNone, oSome, eOp, eVar, eC, List.getElem?_cons_zero, List.getElem?_cons_succ, bnd_ok, subG_int, slice_ref' gL, hcut, get_here, wp_some]
      refine wp_lcL (fun i M1 => ∃ (acc : List D) (Z5 : Hd), M1 = M3 ++ [O.lst (L.take (n - 1).toNat)] ++ .lst acc :: Z5 ∧ acc.length = i ∧ ∀ d ∈ acc, ∃ es, d = .tup es ∧ ∀ e ∈ es, Itm e) ?_ ?_ ?_
      · rintro i d M1 hd ⟨acc, Z5, rfl, hacc, hall⟩
        have hil : i < (L.take (n - 1).toNat).length := (List.getElem?_eq_some_iff.mp hd).1
        rw [List.length_take] at hil
        obtain ⟨q, rfl, hq1, row, hrm, hq2⟩ := hRef d (List.mem_of_mem_take (List.mem_of_getElem? hd))
        have hrl := (ht.r row hrm).1
        refine ⟨by simp only [still_one, still_nil, and_true]; exact get_old get_here, _, rfl, ?_⟩
        unfold tYes
        rw [wp_some]
        show (true = false → _) ∧ (true = true → _)
        refine ⟨(fun h => nomatch h), fun _ => ?_⟩
        have hq3 : (M3 ++ [O.lst (L.take (n - 1).toNat)] ++ .lst acc :: Z5)[q]? = some (.lst (row.map D.int)) := get_old (get_old hq2)
        have ga : (M3 ++ [O.lst (L.take (n - 1).toNat)] ++ .lst acc :: Z5)[(M3 ++ [O.lst (L.take (n - 1).toNat)]).length]? = some (.lst acc) := get_here
        have hcut2 : cutD (row.map D.int) none (some (n - 1)) = (row.map D.int).take (n - 1).toNat := cut_to' (by rw [List.length_map]; omega)
        have hset : ∀ (X : Hd) (o : O), (M3 ++ [O.lst (L.take (n - 1).toNat)] ++ .lst acc :: Z5 ++ X).set (M3 ++ [O.lst (L.take (n - 1).toNat)]).length o = M3 ++ [O.lst (L.take (n - 1).toNat)] ++ o :: (Z5 ++ X) := fun X o => by
          rw [List.append_assoc (M3 ++ [O.lst (L.take (n - 1).toNat)]), List.cons_append, set_here]
        generalize M3 ++ [O.lst (L.take (n - 1).toNat)] ++ .lst acc :: Z5 = M6 at hq3 ga hset ⊢
        walk_at "ds"
        refine (wp_comp (M := M6 ++ [O.lst ((row.map D.int).take (n - 1).toNat)]) (gs := [(M6.length, (row.map D.int).take (n - 1).toNat)]) (ds := (row.map D.int).take (n - 1).toNat) (keep := fun _ => true) (val := fun d => match d with | .int x => .int (if (if n - 2 > 0 then n - 2 else 0) < x then (if n - 2 > 0 then n - 2 else 0) else x) | d => d) ?_ (fun X => by simp only [still_one, still_nil, and_true]; exact get_old get_here) (by rw [List.length_take, List.length_map]; omega) ?_).ok ?_
        · simp only [seqI, eSl, oNone, oSome, eOp, eVar, eC, wip, List.set_cons_zero, List.set_cons_succ, List.getElem?_cons_zero, List.getElem?_cons_succ, bnd_ok, subG_int, slice_ref' hq3, hcut2, get_here]
        · intro d hd X
          obtain ⟨x, _, rfl⟩ := List.mem_map.mp (List.mem_of_mem_take hd)
          refine ⟨_, rfl, ?_⟩
          rw [wp_some]
          refine ⟨rfl, [], by rw [List.append_nil], fun _ => ?_⟩
          walk_at "ds"
          exact ⟨[], by rw [List.append_nil]⟩
        rintro _ _ ⟨rfl, Z7, rfl⟩
        walk_at "ds"
        rw [tuple_ref get_here]
        walk_at "ds"
        rw [List.filter_eq_self.mpr (fun _ _ => rfl)]
        have ga := get_old (Z := O.lst (((row.map D.int).take (n - 1).toNat).map fun d => match d with | .int x => .int (if (if n - 2 > 0 then n - 2 else 0) < x then (if n - 2 > 0 then n - 2 else 0) else x) | d => d) :: Z7) (get_old (Z := [O.lst ((row.map D.int).take (n - 1).toNat)]) ga)
        rw [ga]
        refine ⟨_, rfl, by omega, ?_⟩
        rw [List.append_assoc, hset]
        refine ⟨_, _, rfl, by simp [hacc], fun d hd => ?_⟩
        rcases List.mem_append.mp hd with hd | hd
        · exact hall d hd
        · rw [List.mem_singleton] at hd
          subst hd
          refine ⟨_, rfl, fun e he => ?_⟩
          obtain ⟨e0, he0, rfl⟩ := List.mem_map.mp he
          obtain ⟨x, _, rfl⟩ := List.mem_map.mp (List.mem_of_mem_take he0)
          exact .inl rfl
      · rintro M1 ⟨acc, Z5, rfl, hacc, hall⟩
        refine ⟨by simp only [still_one, still_nil, and_true]; exact get_old get_here, ?_⟩
        refine ⟨rfl, acc, Z5, rfl, ?_, hall⟩
        rw [hacc, List.length_take]
        omega
      · exact ⟨[], [], rfl, rfl, fun d hd => nomatch hd⟩
    rintro _ _ ⟨rfl, acc, Z5, rfl, hal, hall⟩
    walk_at "ds"
    rw [tuple_ref get_here]
    walk_at "ds"
    refine ⟨.inl ⟨_, rfl, fun d hd => .inl (hall d hd), .inr (by omega)⟩, _, by have h := (hD.app [O.lst (L.take (n - 1).toNat)]).app (O.lst acc :: Z5); simp only [List.append_assoc] at h ⊢; exact h⟩
  · generalize hT : tbD tb = T
    walk_at "ds"
    refine (tuples_ok (own := [6]) (L := L) rfl gL (by omega) (fun d hd => by obtain ⟨q, e, _, row, _, hq⟩ := hRef d hd; exact ⟨q, _, e, hq⟩) (by simp [wip])).ok ?_
    rintro _ _ ⟨rfl, Z4, rfl⟩
    walk_at "ds"
    exact ⟨.inr ⟨_, _, rfl, get_here⟩, _, by have h := hD.app (O.lst (L.map (asT M3)) :: Z4); rw [List.append_assoc] at h; exact h⟩
/-! ### spoilt trees -/
def toS : Tr → St
  | .leaf v => .leaf v
  | .node tb l r => .node tb (toS l) (toS r)
theorem toS_D : ∀ (t : Tr), sD (toS t) = tD t
  | .leaf _ => rfl
  | .node tb l r => by
    show D.tup [.str "node", tbD tb, sD (toS l), sD (toS r)] = .tup [.str "node", tbD tb, tD l, tD r]
    rw [toS_D l, toS_D r]
theorem toS_ok {n : Int} {M : Hd} : ∀ {t : Tr}, TOk n t → sOk n M (toS t)
  | .leaf _, h => h
  | .node _ _ _, h => ⟨h.1, toS_ok h.2.1, toS_ok h.2.2⟩
theorem toS_dep : ∀ (t : Tr), (toS t).dep = t.dep
  | .leaf _ => rfl
  | .node tb l r => by simp only [toS, St.dep, Tr.dep, toS_dep l, toS_dep r]
theorem toS_sz : ∀ (t : Tr), (toS t).sz = t.sz
  | .leaf _ => rfl
  | .node tb l r => by simp only [toS, St.sz, Tr.sz, toS_sz l, toS_sz r]; omega
def SpRes (n : Int) (R : Hd) : D → Hd → Prop := fun d M1 => ∃ (s : St) (X : Hd), d = sD s ∧ s.isB = true ∧ sOk n M1 s ∧ Dr M1 (R ++ X)
theorem spoilt_leaf {n v : Int} {M R : Hd} (hn : 1 ≤ n ∧ n ≤ 40) (k : Nat) (hD : Dr M R) : Wp (r__law_spoilt (k + 1) [.ref 1, .tup [.str "leaf", .int v], .int n] M) (okQ (SpRes n R)) := by
  show Wp (mir N__law_spoilt.length P__law_spoilt.length (g__law_spoilt (r__law_spoilt k)) [.ref 1, .tup [.str "leaf", .int v], .int n] M) _
  refine wp_mir rfl ?_
  unfold g__law_spoilt
  generalize r__law_spoilt k = rec_
  walk_at "sx"
  refine (bad_number_ok hD hn).ok ?_
  rintro b M1 ⟨hb1, hb2, X1, hD1⟩
  walk_at "sx"
  have hl1 := hD1.len
  have hD2 := (hD1.app [O.lst [.str "leaf", .int 0]]).app [O.lst [D.tup [.str "leaf", b], .tup [.str "leaf"], .tup [.str "leaf", .int 0, .int 0], .ref M1.length, .tup [.str "leave", .int 0], .non, .tup [], .int 5]]
  refine (draw_ok hD2).ok ?_
  rintro _ M2 ⟨x, rfl, _, _, hD3⟩
  have gB := kpR (X := []) hD2 (by rw [List.append_nil]; exact hD3) (i := (M1 ++ [O.lst [.str "leaf", .int 0]]).length) (by simp; omega) get_here
  have gA := kpR (X := []) hD2 (by rw [List.append_nil]; exact hD3) (i := M1.length) (by omega) (get_old get_here)
  walk_at "ds"
  rw [gB]
  dsimp only
  obtain ⟨d, hd, hN⟩ : ∃ d, atI [D.tup [.str "leaf", b], .tup [.str "leaf"], .tup [.str "leaf", .int 0, .int 0], .ref M1.length, .tup [.str "leave", .int 0], .non, .tup [], .int 5] (x % 8) = some d ∧ NoTree n M2 d := by
    have hc : x % 8 = 0 ∨ x % 8 = 1 ∨ x % 8 = 2 ∨ x % 8 = 3 ∨ x % 8 = 4 ∨ x % 8 = 5 ∨ x % 8 = 6 ∨ x % 8 = 7 := by omega
    rcases hc with e | e | e | e | e | e | e | e <;> rw [e]
    · exact ⟨_, atI_nn (by decide) rfl, nt_leaf hb1 hb2⟩
    · exact ⟨_, atI_nn (by decide) rfl, nt_one⟩
    · exact ⟨_, atI_nn (by decide) rfl, nt_three⟩
    · exact ⟨_, atI_nn (by decide) rfl, nt_ref gA⟩
    · exact ⟨_, atI_nn (by decide) rfl, nt_word (by decide +kernel)⟩
    · exact ⟨_, atI_nn (by decide) rfl, nt_non⟩
    · exact ⟨_, atI_nn (by decide) rfl, nt_nil⟩
    · exact ⟨_, atI_nn (by decide) rfl, nt_int⟩
  rw [hd]
  walk_at "ds"
  rw [List.append_assoc, List.append_assoc] at hD3
  exact ⟨.bad d, _, rfl, rfl, hN, hD3⟩
theorem spoilt_node {n : Int} {tb : List (List Int)} {l r : Tr} {M R : Hd} (hn : 1 ≤ n ∧ n ≤ 40) (k : Nat) (ht : TbOk n tb) (hl : TOk n l) (hr : TOk n r) (ihl : ∀ M R, Dr M R → Wp (r__law_spoilt k [.ref 1, tD l, .int n] M) (okQ (SpRes n R))) (ihr : ∀ M R, Dr M R → Wp (r__law_spoilt k [.ref 1, tD r, .int n] M) (okQ (SpRes n R))) (hD : Dr M R) : Wp (r__law_spoilt (k + 1) [.ref 1, .tup [.str "node", tbD tb, tD l, tD r], .int n] M) (okQ (SpRes n R)) := by
  show Wp (mir N__law_spoilt.length P__law_spoilt.length (g__law_spoilt (r__law_spoilt k)) [.ref 1, .tup [.str "node", tbD tb, tD l, tD r], .int n] M) _
  have hsl := toS_D l
  have hsr := toS_D r
  refine wp_mir rfl ?_
  unfold g__law_spoilt
  have hst : startD N__law_spoilt.length [.ref 1, .tup [.str "node", tbD tb, tD l, tD r], .int n] = [some (.ref 1), some (.tup [.str "node", tbD tb, tD l, tD r]), some (.int n), none, none, none] := rfl
  rw [hst]
  generalize hEl : tD l = dl at ihl hsl ⊢
  generalize hEr : tD r = dr at ihr hsr ⊢
  generalize hEt : tbD tb = dt
  generalize r__law_spoilt k = rec_ at ihl ihr ⊢
  rw [wp_seq]
  refine wp_ifb (c := False) ?_ (fun h => h.elim) (fun _ => ?_)
  · walk_at "sx"
    exact ⟨_, rfl, by simp⟩
  refine wp_nil ?_
  walk_at "ds"
  refine (draw_ok hD).ok ?_
  rintro _ M1 ⟨x, rfl, _, _, hD1⟩
  walk_at "ds"
  generalize x % 8 = pk
  refine wp_ifb (c := pk < 3) ?_ (fun _ => ?_) (fun _ => ?_)
  · walk_at "di"
    exact ⟨_, rfl, by rw [decide_eq_true_iff]⟩
  · walk_at "ds"
    refine (draw_ok hD1).ok ?_
    rintro _ M2 ⟨y, rfl, _, _, hD2⟩
    have hy : y % 2 = 0 ∨ y % 2 = 1 := by omega
    rcases hy with e | e
    · walk_at "ds"
      rw [e]
      walk_at "ds"
      refine (ihl _ _ hD2).ok ?_
      rintro _ M3 ⟨s, X, rfl, hb, hs, hD3⟩
      walk_at "di"
      refine ⟨.node tb s (toS r), X, ?_, ?_, ⟨ht, hs, toS_ok hr⟩, hD3⟩
      · rw [← hEt, ← hsr]
        rfl
      · simp only [St.isB, hb, Bool.true_or]
    · walk_at "ds"
      rw [e]
      walk_at "ds"
      refine (ihr _ _ hD2).ok ?_
      rintro _ M3 ⟨s, X, rfl, hb, hs, hD3⟩
      walk_at "di"
      refine ⟨.node tb (toS l) s, X, ?_, ?_, ⟨ht, toS_ok hl, hs⟩, hD3⟩
      · rw [← hEt, ← hsl]
        rfl
      · simp only [St.isB, hb, Bool.or_true]
  refine wp_nil ?_
  rw [wp_seq]
  have bad : ∀ {d : D} {M1 : Hd} {X : Hd}, NoTree n M1 d → Dr M1 (R ++ X) → SpRes n R d M1 := fun {d M1 X} h hD => ⟨.bad d, X, rfl, rfl, h, hD⟩
  have hD1 : Dr M1 (R ++ []) := by rw [List.append_nil]; exact hD1
  refine wp_ifb (c := pk = 3) ?_ (fun _ => ?_) (fun _ => ?_)
  · walk_at "di"
    exact ⟨_, rfl, by rw [decide_eq_true_iff]⟩
  · walk_at "ds"
    rw [show sliceD (.tup [.str "node", dt, dl, dr]) none (some 3) M1 = some (.ok (.tup [.str "node", dt, dl]) M1) from rfl]
    walk_at "ds"
    exact bad nt_three hD1
  refine wp_nil ?_
  rw [wp_seq]
  refine wp_ifb (c := pk = 4) ?_ (fun _ => ?_) (fun _ => ?_)
  · walk_at "di"
    exact ⟨_, rfl, by rw [decide_eq_true_iff]⟩
  · walk_at "ds"
    rw [add_tup' (by simp)]
    walk_at "ds"
    exact bad nt_five hD1
  refine wp_nil ?_
  rw [wp_seq]
  refine wp_ifb (c := pk = 5) ?_ (fun _ => ?_) (fun _ => ?_)
  · walk_at "di"
    exact ⟨_, rfl, by rw [decide_eq_true_iff]⟩
  · walk_at "ds"
    rw [show sliceD (.tup [.str "node", dt, dl, dr]) (some 1) none M1 = some (.ok (.tup [dt, dl, dr]) M1) from rfl]
    walk_at "ds"
    rw [add_tup' (by simp)]
    walk_at "ds"
    exact bad (nt_Word (by decide +kernel)) hD1
  refine wp_nil ?_
  rw [wp_seq]
  refine wp_ifb (c := pk = 6) ?_ (fun _ => ?_) (fun _ => ?_)
  · walk_at "di"
    exact ⟨_, rfl, by rw [decide_eq_true_iff]⟩
  · walk_at "ds"
    rw [show listG (.tup [.str "node", dt, dl, dr]) M1 = some (.ok (.ref M1.length) (M1 ++ [.lst [.str "node", dt, dl, dr]])) from rfl]
    walk_at "ds"
    exact bad (nt_ref get_here) (by have h := hD1.app [O.lst [.str "node", dt, dl, dr]]; rw [List.append_assoc] at h; exact h)
  refine wp_nil ?_
  walk_at "ds"
  rw [← hEt]
  refine (bad_table_ok hD1 ht hn).ok ?_
  rintro b M2 ⟨hb, X, hD2⟩
  generalize hEt : tbD tb = dt
  walk_at "ds"
  rw [show sliceD (.tup [.str "node", dt, dl, dr]) (some 2) none M2 = some (.ok (.tup [dl, dr]) M2) from rfl]
  walk_at "ds"
  rw [add_tup' (by simp)]
  walk_at "ds"
  exact bad hb.no (by rw [List.append_assoc] at hD2; exact hD2)
theorem spoilt_ok {n : Int} (hn : 1 ≤ n ∧ n ≤ 40) : ∀ (t : Tr) (k : Nat) (M R : Hd), TOk n t → t.dep ≤ k → Dr M R → Wp (r__law_spoilt k [.ref 1, tD t, .int n] M) (okQ (SpRes n R))
  | .leaf v, 0, _, _, _, hk, _ => by simp only [Tr.dep] at hk; omega
  | .node _ _ _, 0, _, _, _, hk, _ => by simp only [Tr.dep] at hk; omega
  | .leaf v, k + 1, M, R, _, _, hD => spoilt_leaf hn k hD
  | .node tb l r, k + 1, M, R, h, hk, hD => by
    simp only [Tr.dep] at hk
    exact spoilt_node hn k h.1 h.2.1 h.2.2 (fun M R hD => spoilt_ok hn l k M R h.2.1 (by omega) hD) (fun M R hD => spoilt_ok hn r k M R h.2.2 (by omega) hD) hD
/-! ### combs and broad trees -/
def t01 : List (List Int) := [[0, 1], [1, 0]]
def t10 : List (List Int) := [[1, 0], [0, 1]]
theorem t01_ok : TbOk 2 t01 := ⟨rfl, fun row h => by
  simp only [t01, List.mem_cons, List.not_mem_nil, or_false] at h
  rcases h with rfl | rfl <;> refine ⟨rfl, fun x hx => ?_⟩ <;> simp at hx <;> omega⟩
theorem t10_ok : TbOk 2 t10 := ⟨rfl, fun row h => by
  simp only [t10, List.mem_cons, List.not_mem_nil, or_false] at h
  rcases h with rfl | rfl <;> refine ⟨rfl, fun x hx => ?_⟩ <;> simp at hx <;> omega⟩
def comb : Nat → Tr
  | 0 => .leaf 0
  | k + 1 => if k % 2 = 0 then .node t01 (comb k) (.leaf 1) else .node t01 (.leaf 1) (comb k)
theorem comb_ok : ∀ (k : Nat), TOk 2 (comb k) ∧ (comb k).dep = k + 1 ∧ (comb k).sz = 2 * k + 1
  | 0 => ⟨⟨by decide, by decide⟩, rfl, rfl⟩
  | k + 1 => by
    obtain ⟨h1, h2, h3⟩ := comb_ok k
    unfold comb
    split
    · refine ⟨⟨t01_ok, h1, ⟨by decide, by decide⟩⟩, ?_, ?_⟩
      · simp only [Tr.dep, h2]; omega
      · simp only [Tr.sz, h3]; omega
    · refine ⟨⟨t01_ok, ⟨by decide, by decide⟩, h1⟩, ?_, ?_⟩
      · simp only [Tr.dep, h2]; omega
      · simp only [Tr.sz, h3]; omega
theorem comb_run {lv : Int} {M : Hd} (h : 1 ≤ lv ∧ lv ≤ 100) : Wp (m__law_comb [.int lv] M) (okQ fun d M1 => d = tD (comb (lv - 1).toNat) ∧ M1 = M) := by
  refine wp_mir rfl ?_
  unfold g__law_comb
  walk_at "ds"
  rw [if_smP (by omega)]
  rw [show D.tup [.str "leaf", .int 0] = tD (comb 0) from rfl]
  refine wp_forL (fun i r M1 => ∃ a2, r = [some (.int lv), some (tD (comb i)), a2] ∧ M1 = M) ?_ ?_ ?_
  · rintro i d r M1 hd ⟨a2, rfl, rfl⟩
    obtain ⟨hi2, rfl⟩ := ints_get hd
    refine ⟨by simp, _, rfl, ?_⟩
    have hc : comb (i + 1) = if i % 2 = 0 then .node t01 (comb i) (.leaf 1) else .node t01 (.leaf 1) (comb i) := rfl
    rw [hc]
    generalize comb i = t
    simp only [Int.zero_add]
    refine wp_ifb (c := i % 2 = 0) ?_ (fun hc => ?_) (fun hc => ?_)
    · walk_at "di"
      exact ⟨_, rfl, by rw [decide_eq_true_iff]; omega⟩
    · rw [if_pos hc]
      generalize hT : tD t = T
      walk_at "ds"
      refine ⟨some (.int (i : Int)), ?_⟩
      rw [← hT]
      rfl
    · rw [if_neg hc]
      generalize hT : tD t = T
      walk_at "ds"
      refine ⟨some (.int (i : Int)), ?_⟩
      rw [← hT]
      rfl
  · rintro r M1 ⟨a2, rfl, rfl⟩
    rw [ints_length]
    refine ⟨by simp, ?_⟩
    walk_at "ds"
  · exact ⟨none, rfl, rfl⟩
def pairI (row : List Tr) : List Tr := (List.range ((row.length + 1) / 2)).map fun k => if 2 * k + 1 < row.length then .node t10 (row.getD (2 * k) (.leaf 0)) (row.getD (2 * k + 1) (.leaf 0)) else row.getD (2 * k) (.leaf 0)
def lvs (n : Nat) : List Tr := (List.range n).map fun (k : Nat) => .leaf ((k : Int) % 2)
def turnI : Nat → List Tr → List Tr
  | 0, row => row
  | k + 1, row => pairI (turnI k row)
def broadT (n : Nat) : Tr := (turnI 8 (lvs n)).getD 0 (.leaf 0)
theorem pair_len (row : List Tr) : (pairI row).length = (row.length + 1) / 2 := by unfold pairI; simp
theorem getD_mem {row : List Tr} {k : Nat} (h : k < row.length) : row.getD k (.leaf 0) ∈ row := by
  rw [List.getD_eq_getElem?_getD, List.getElem?_eq_getElem h]
  exact List.getElem_mem h
theorem pair_ok {row : List Tr} (h : ∀ t ∈ row, TOk 2 t) : ∀ t ∈ pairI row, TOk 2 t := fun t ht => by
  obtain ⟨k, hk, rfl⟩ := List.mem_map.mp ht
  rw [List.mem_range] at hk
  split
  · exact ⟨t10_ok, h _ (getD_mem (by omega)), h _ (getD_mem (by omega))⟩
  · exact h _ (getD_mem (by omega))
theorem turn_all {row : List Tr} (h : ∀ t ∈ row, TOk 2 t) : ∀ k, ∀ t ∈ turnI k row, TOk 2 t
  | 0 => h
  | k + 1 => pair_ok (turn_all h k)
theorem lvs_ok (n : Nat) : ∀ t ∈ lvs n, TOk 2 t := fun t ht => by
  obtain ⟨k, _, rfl⟩ := List.mem_map.mp ht
  exact ⟨by omega, by omega⟩
theorem broad_facts : ∀ n, n = 99 ∨ n = 100 ∨ n = 101 → (turnI 8 (lvs n)).length = 1 ∧ (broadT n).dep = 8 ∧ (broadT n).sz = 2 * n - 1 := by
  rintro n (rfl | rfl | rfl)
  · decide +kernel
  · decide +kernel
  · decide +kernel
theorem lvs_eq (n : Nat) : ((intsD 0 n).filter fun _ => true).map (fun d => match d with | .int j => D.tup [.str "leaf", .int (j % 2)] | d => d) = (lvs n).map tD := by
  rw [List.filter_eq_self.mpr (fun _ _ => rfl)]
  unfold intsD lvs
  rw [List.map_map, List.map_map]
  apply List.map_congr_left
  intro k _
  show D.tup [.str "leaf", .int ((0 + (k : Int)) % 2)] = .tup [.str "leaf", .int ((k : Int) % 2)]
  rw [Int.zero_add]
theorem atI_row' {row : List Tr} {j : Int} {k : Nat} (hj : j = k) (h : k < row.length) : atI (row.map tD) j = some (tD (row.getD k (.leaf 0))) := by
  apply atI_nn (by omega)
  rw [show j.toNat = k by omega, List.getElem?_map, List.getD_eq_getElem?_getD, List.getElem?_eq_getElem h]
  rfl
theorem pair_get {row : List Tr} {k : Nat} (h : k < (row.length + 1) / 2) : (pairI row)[k]? = some (if 2 * k + 1 < row.length then .node t10 (row.getD (2 * k) (.leaf 0)) (row.getD (2 * k + 1) (.leaf 0)) else row.getD (2 * k) (.leaf 0)) := by
  unfold pairI
  rw [List.getElem?_map, List.getElem?_range h]
  rfl
theorem broad_run {n : Nat} {M : Hd} (hn : n = 99 ∨ n = 100 ∨ n = 101) : Wp (m__law_broad [.int (n : Int)] M) (okQ fun d M1 => d = tD (broadT n) ∧ ∃ X, M1 = M ++ X) := by
  obtain ⟨hf1, _, _⟩ := broad_facts n hn
  have hlv : (lvs n).length = n := by unfold lvs; simp
  have hlen : ∀ k, (turnI k (lvs n)).length ≤ 101 := by
    intro k
    induction k with
    | zero => show (lvs n).length ≤ 101; omega
    | succ k ih => show (pairI (turnI k (lvs n))).length ≤ 101; rw [pair_len]; omega
  refine wp_mir rfl ?_
  unfold g__law_broad
  walk_at "ds"
  refine (wp_comp (M := M) (gs := []) (ds := intsD 0 n) (keep := fun _ => true) (val := fun d => match d with | .int j => .tup [.str "leaf", .int (j % 2)] | d => d) ?_ (fun _ => by simp) (by rw [ints_length]; omega) ?_).ok ?_
  · exact rng_ok rfl (by omega)
  · intro d hd X
    obtain ⟨j, hj⟩ := List.getElem?_of_mem hd
    obtain ⟨hj2, rfl⟩ := ints_get hj
    refine ⟨_, rfl, ?_⟩
    unfold tYes
    rw [wp_some]
    refine ⟨rfl, [], by rw [List.append_nil], fun _ => ?_⟩
    walk_at "ds"
    exact ⟨[], by rw [List.append_nil]⟩
  rintro _ _ ⟨rfl, Z, rfl⟩
  rw [lvs_eq]
  walk_at "ds"
  refine wp_forL (fun i r M1 => ∃ (p : Nat) (X : Hd) (a2 a3 a4 : Option D), r = [some (.int (n : Int)), some (.ref p), a2, a3, a4] ∧ M1 = M ++ X ∧ M1[p]? = some (.lst ((turnI i (lvs n)).map tD))) ?_ ?_ ?_
  · rintro i d r M1 hd ⟨p, X, a2, a3, a4, rfl, rfl, gp⟩
    refine ⟨by simp, _, rfl, ?_⟩
    have hrl := hlen i
    have htn : turnI (i + 1) (lvs n) = pairI (turnI i (lvs n)) := rfl
    rw [htn]
    generalize turnI i (lvs n) = row at gp hrl ⊢
    have hpl := pair_len row
    walk_at "ds"
    rw [show (M ++ X ++ [O.lst []])[p]? = some (O.lst (row.map tD)) from get_old gp]
    walk_at "ds"
    rw [List.length_map, if_smP (by omega), show (((row.length : Int) + 1) / 2).toNat = (row.length + 1) / 2 by omega]
    refine wp_forL (fun k r M1 => ∃ (a4 : Option D), r = [some (.int (n : Int)), some (.ref p), some d, some (.ref (M ++ X).length), a4] ∧ M1 = M ++ X ++ [.lst (((pairI row).take k).map tD)]) ?_ ?_ ?_
    · rintro k dk r M1 hdk ⟨a4, rfl, rfl⟩
      obtain ⟨hk2, rfl⟩ := ints_get hdk
      refine ⟨by simp, _, rfl, ?_⟩
      have hg := pair_get hk2
      have htk : ((pairI row).take (k + 1)).map tD = ((pairI row).take k).map tD ++ [tD (if 2 * k + 1 < row.length then .node t10 (row.getD (2 * k) (.leaf 0)) (row.getD (2 * k + 1) (.leaf 0)) else row.getD (2 * k) (.leaf 0))] := by
        rw [List.take_succ, hg, List.map_append]
        rfl
      rw [htk]
      have hal : (((pairI row).take k).map tD).length < 16777216 := by rw [List.length_map, List.length_take]; omega
      generalize ((pairI row).take k).map tD = acc at hal ⊢
      have gp2 : (M ++ X ++ [O.lst acc])[p]? = some (.lst (row.map tD)) := get_old gp
      have ga : (M ++ X ++ [O.lst acc])[(M ++ X).length]? = some (.lst acc) := get_here
      have hset : ∀ o, (M ++ X ++ [O.lst acc]).set (M ++ X).length o = M ++ X ++ [o] := fun o => by rw [set_here]
      generalize (M ++ X).length = q at ga hset ⊢
      generalize M ++ X ++ [O.lst acc] = M2 at gp2 ga hset ⊢
      simp only [Int.zero_add]
      refine wp_ifb (c := 2 * k + 1 < row.length) ?_ (fun hc => ?_) (fun hc => ?_)
      · walk_at "di"
        rw [gp2]
        walk_at "di"
        exact ⟨_, rfl, by rw [decide_eq_true_iff, List.length_map]; omega⟩
      · rw [if_pos hc]
        walk_at "ds"
        rw [ga]
        walk_at "ds"
        rw [gp2]
        walk_at "ds"
        rw [atI_row' (k := 2 * k) (by omega) (by omega)]
        walk_at "ds"
        rw [gp2]
        walk_at "ds"
        rw [atI_row' (k := 2 * k + 1) (by omega) hc]
        walk_at "ds"
        try rw [ga]
        try dsimp only
        rw [if_pos hal]
        walk_at "ds"
        rw [hset]
        exact ⟨_, rfl, rfl⟩
      · rw [if_neg hc]
        walk_at "ds"
        rw [ga]
        walk_at "ds"
        rw [gp2]
        walk_at "ds"
        rw [atI_row' (k := 2 * k) (by omega) (by omega)]
        walk_at "ds"
        try rw [ga]
        try dsimp only
        rw [if_pos hal]
        walk_at "ds"
        rw [hset]
        exact ⟨_, rfl, rfl⟩
    · rintro r M1 ⟨a4, rfl, rfl⟩
      rw [ints_length, ← hpl, List.take_length]
      refine ⟨by simp, ?_⟩
      walk_at "ds"
      exact ⟨_, _, _, _, _, rfl, by rw [List.append_assoc], get_here⟩
    · exact ⟨a4, rfl, rfl⟩
  · rintro r M1 ⟨p, X, a2, a3, a4, rfl, rfl, gp⟩
    have gp : (M ++ X)[p]? = some (.lst ((turnI 8 (lvs n)).map tD)) := gp
    refine ⟨by simp, ?_⟩
    walk_at "ds"
    rw [gp]
    walk_at "ds"
    rw [atI_row' (j := 0) (k := 0) rfl (by omega)]
    walk_at "ds"
    exact ⟨rfl, X, rfl⟩
  · exact ⟨_, _, none, none, none, rfl, rfl, get_here⟩
/-! ### what the law asks -/
def BadV (v : D) : Prop := v = .int 0 ∨ v = .int 41 ∨ v = .bl true ∨ v = .non
structure Vd (t v : D) (b : Bool) (M : Hd) : Prop where
  good : b = true → ∃ (n : Int) (T : Tr), t = tD T ∧ v = .int n ∧ TOk n T ∧ (1 ≤ n ∧ n ≤ 40) ∧ T.dep ≤ 40 ∧ T.sz ≤ 199
  bad : b = false → Refused t v M ∧ (BadV v ∨ ∃ n, v = .int n ∧ 1 ≤ n ∧ n ≤ 40)
theorem given_ok {M R : Hd} (h : Dr M R) : Wp (m__law_given [.ref 1] M) (okQ fun d M1 => ∃ (p : Nat) (t v : D) (b : Bool), d = .ref p ∧ M1[p]? = some (.lst [t, v, .bl b]) ∧ Vd t v b M1) := by
  refine wp_mir rfl ?_
  unfold g__law_given
  walk_at "ds"
  refine (draw_ok h).ok ?_
  rintro _ M1 ⟨a, rfl, a0, a1, hD⟩
  walk_at "ds"
  have hl := hD.len
  have hD := hD.app [O.lst [.int 7, .int 7, .int 40]]
  refine (draw_ok hD).ok ?_
  rintro _ M2 ⟨b, rfl, _, _, hD⟩
  have g : M2[M1.length]? = some (O.lst [.int 7, .int 7, .int 40]) := by rw [hl, hD.get]; exact get_app
  walk_at "ds"
  rw [g]
  dsimp only
  obtain ⟨c, hc, hc2⟩ : ∃ c, atI [D.int 7, .int 7, .int 40] (b % 3) = some (.int c) ∧ (1 ≤ c ∧ c ≤ 40) := by
    have hc : b % 3 = 0 ∨ b % 3 = 1 ∨ b % 3 = 2 := by omega
    rcases hc with e | e | e <;> rw [e]
    · exact ⟨7, atI_nn (by decide) rfl, by decide⟩
    · exact ⟨7, atI_nn (by decide) rfl, by decide⟩
    · exact ⟨40, atI_nn (by decide) rfl, by decide⟩
  rw [hc]
  walk_at "ds"
  rw [modG_ok (by omega)]
  walk_at "ds"
  have hn : 1 ≤ 1 + a % c ∧ 1 + a % c ≤ 40 := by have := Int.emod_nonneg a (show c ≠ 0 by omega); have := Int.emod_lt_of_pos a (show 0 < c by omega); omega
  generalize 1 + a % c = n at hn ⊢
  obtain ⟨n, rfl⟩ := Int.eq_ofNat_of_zero_le (show 0 ≤ n by omega)
  clear hc hc2 g hl
  generalize R ++ [O.lst [.int 7, .int 7, .int 40]] = R at hD
  rw [hD.len]
  have hD := hD.app [O.lst [.int (14 - 10 * if (7 : Int) < (n : Int) then 1 else 0)]]
  refine (tree_ok (n := n) ⟨by omega, by omega⟩ 60 5 _ _ _ _ (by omega) (by omega) hD get_app).ok ?_
  rintro _ M3 ⟨t, R3, lf, rfl, ok, dp, hD3, _⟩
  have hsz := dep_sz (t := t) dp (by decide)
  clear hD
  walk_at "ds"
  refine (draw_ok hD3).ok ?_
  rintro _ M4 ⟨x, rfl, _, _, hD⟩
  walk_at "ds"
  generalize x % 10 = pk
  refine wp_ifb (c := pk < 4) ?_ (fun _ => ?_) (fun _ => ?_)
  · walk_at "di"
    exact ⟨_, rfl, by rw [decide_eq_true_iff]⟩
  · have hsp := spoilt_ok hn t 60 M4 R3 ok (by omega) hD
    generalize tD t = T at hsp ⊢
    walk_at "ds"
    refine (show Wp (m__law_spoilt [.ref 1, T, .int n] M4) _ from hsp).ok ?_
    rintro _ M5 ⟨s, X, rfl, hb, hs, hD5⟩
    generalize hS : sD s = S
    walk_at "ds"
    refine ⟨_, _, _, false, rfl, get_here, ⟨(fun h => nomatch h), fun _ => ⟨?_, .inr ⟨n, rfl, hn⟩⟩⟩⟩
    rw [← hS]
    exact rows_st (sOk_app hs) hn (.inl hb)
  refine wp_nil ?_
  rw [wp_seq]
  refine wp_ifb (c := pk = 4) ?_ (fun _ => ?_) (fun _ => ?_)
  · walk_at "di"
    exact ⟨_, rfl, by rw [decide_eq_true_iff]⟩
  · generalize tD t = T
    walk_at "ds"
    have hl := hD.len
    have hD2 := hD.app [O.lst [.int 0, .int 41, .bl true, .non]]
    refine (draw_ok hD2).ok ?_
    rintro _ M5 ⟨y, rfl, _, _, hD5⟩
    have g : M5[M4.length]? = some (O.lst [.int 0, .int 41, .bl true, .non]) := by rw [hl, hD5.get]; exact get_app
    walk_at "ds"
    rw [g]
    dsimp only
    obtain ⟨v, hv, hv2⟩ : ∃ v, atI [D.int 0, .int 41, .bl true, .non] (y % 4) = some v ∧ BadV v := by
      have hc : y % 4 = 0 ∨ y % 4 = 1 ∨ y % 4 = 2 ∨ y % 4 = 3 := by omega
      rcases hc with e | e | e | e <;> rw [e]
      · exact ⟨_, atI_nn (by decide) rfl, .inl rfl⟩
      · exact ⟨_, atI_nn (by decide) rfl, .inr (.inl rfl)⟩
      · exact ⟨_, atI_nn (by decide) rfl, .inr (.inr (.inl rfl))⟩
      · exact ⟨_, atI_nn (by decide) rfl, .inr (.inr (.inr rfl))⟩
    rw [hv]
    walk_at "ds"
    exact ⟨_, _, _, false, rfl, get_here, ⟨(fun h => nomatch h), fun _ => ⟨rows_badv hv2, .inl hv2⟩⟩⟩
  refine wp_nil ?_
  rw [wp_seq]
  refine wp_ifb (c := pk = 5) ?_ (fun _ => ?_) (fun _ => ?_)
  · walk_at "di"
    exact ⟨_, rfl, by rw [decide_eq_true_iff]⟩
  · generalize tD t = T
    walk_at "ds"
    refine (draw_ok hD).ok ?_
    rintro _ M5 ⟨y, rfl, _, _, hD5⟩
    walk_at "ds"
    have hlv : 38 ≤ 38 + y % 5 ∧ 38 + y % 5 ≤ 42 := by omega
    generalize 38 + y % 5 = lv at hlv ⊢
    refine (comb_run (lv := lv) (by omega)).ok ?_
    rintro _ _ ⟨rfl, rfl⟩
    obtain ⟨c1, c2, c3⟩ := comb_ok (lv - 1).toNat
    have hsD := toS_D (comb (lv - 1).toNat)
    have hso := fun M => toS_ok (M := M) c1
    have hsd := toS_dep (comb (lv - 1).toNat)
    generalize hK : comb (lv - 1).toNat = K at c1 c2 c3 hsD hso hsd ⊢
    generalize hS : tD K = S
    walk_at "ds"
    refine ⟨_, _, _, decide (lv ≤ 40), rfl, get_here, ⟨fun h => ⟨2, K, hS.symm, rfl, c1, by decide, ?_, ?_⟩, fun h => ⟨?_, .inr ⟨2, rfl, by decide⟩⟩⟩⟩
    · rw [decide_eq_true_iff] at h
      omega
    · omega
    · rw [decide_eq_false_iff_not] at h
      rw [← hS, ← hsD]
      exact rows_st (hso _) (by decide) (.inr (.inl (by rw [hsd]; omega)))
  refine wp_nil ?_
  rw [wp_seq]
  refine wp_ifb (c := pk = 6) ?_ (fun _ => ?_) (fun _ => ?_)
  · walk_at "di"
    exact ⟨_, rfl, by rw [decide_eq_true_iff]⟩
  · generalize tD t = T
    walk_at "ds"
    refine (draw_ok hD).ok ?_
    rintro _ M5 ⟨y, rfl, _, _, hD5⟩
    walk_at "ds"
    obtain ⟨j, hj, hj2⟩ : ∃ j : Nat, 99 + y % 3 = (j : Int) ∧ (j = 99 ∨ j = 100 ∨ j = 101) := ⟨(99 + y % 3).toNat, by omega, by omega⟩
    rw [hj]
    refine (broad_run (n := j) hj2).ok ?_
    rintro _ _ ⟨rfl, X, rfl⟩
    obtain ⟨b1, b2, b3⟩ := broad_facts j hj2
    have c1 : TOk 2 (broadT j) := turn_all (lvs_ok j) 8 _ (getD_mem (by omega))
    have hsD := toS_D (broadT j)
    have hso := fun M => toS_ok (M := M) c1
    have hss := toS_sz (broadT j)
    generalize broadT j = K at b2 b3 c1 hsD hso hss ⊢
    generalize hS : tD K = S
    walk_at "ds"
    refine ⟨_, _, _, decide ((j : Int) ≤ 100), rfl, get_here, ⟨fun h => ⟨2, K, hS.symm, rfl, c1, by decide, by omega, ?_⟩, fun h => ⟨?_, .inr ⟨2, rfl, by decide⟩⟩⟩⟩
    · rw [decide_eq_true_iff] at h
      omega
    · rw [decide_eq_false_iff_not] at h
      rw [← hS, ← hsD]
      exact rows_st (hso _) (by decide) (.inr (.inr (by rw [hss]; omega)))
  refine wp_nil ?_
  rw [wp_seq]
  have good : ∀ {M : Hd}, Vd (tD t) (.int n) true M := fun {M} => ⟨fun _ => ⟨n, t, rfl, rfl, ok, hn, by omega, hsz⟩, fun h => nomatch h⟩
  cases t with
  | leaf v =>
    refine wp_ifb (c := False) ?_ (fun h => h.elim) (fun _ => ?_)
    · unfold tD
      walk_at "sx"
      split <;> exact ⟨_, rfl, by simp⟩
    · refine wp_nil ?_
      generalize tD (.leaf v) = T at good ⊢
      walk_at "ds"
      exact ⟨_, _, _, true, rfl, get_here, good⟩
  | node tb l r =>
    refine wp_ifb (c := pk = 7) ?_ (fun _ => ?_) (fun _ => ?_)
    · unfold tD
      walk_at "sx"
      split
      · rename_i h
        exact ⟨_, rfl, by simp [h]⟩
      · rename_i h
        exact ⟨_, rfl, by simp [h]⟩
    · have hnt : ∀ (v' : Int) (M : Hd), (n : Int) ≠ v' → NoTree v' M (tD (.node tb l r)) := fun v' M hv => nt_other ok.1 hv
      generalize tD (.node tb l r) = T at hnt ⊢
      walk_at "ds"
      have hv : (1 ≤ ((if (n : Int) + 1 < 40 then (n : Int) + 1 else 40) - if (n : Int) = 40 then 1 else 0) ∧ ((if (n : Int) + 1 < 40 then (n : Int) + 1 else 40) - if (n : Int) = 40 then 1 else 0) ≤ 40) ∧ (n : Int) ≠ ((if (n : Int) + 1 < 40 then (n : Int) + 1 else 40) - if (n : Int) = 40 then 1 else 0) := by
        split <;> split <;> omega
      generalize ((if (n : Int) + 1 < 40 then (n : Int) + 1 else 40) - if (n : Int) = 40 then 1 else 0) = v' at hv ⊢
      exact ⟨_, _, _, false, rfl, get_here, ⟨(fun h => nomatch h), fun _ => ⟨rows_st (t := .bad T) (hnt _ _ hv.2) hv.1 (.inl rfl), .inr ⟨v', rfl, hv.1⟩⟩⟩⟩
    · refine wp_nil ?_
      generalize tD (.node tb l r) = T at good ⊢
      walk_at "ds"
      exact ⟨_, _, _, true, rfl, get_here, good⟩
theorem law_ok (ns : List Int) (h : ns.length ≤ 63) : Wp (m_law [.fl (ns.map D.int)] []) (okQ fun d _ => d = .bl true) := by
  refine wp_mir rfl ?_
  unfold g_law
  walk_at "ds"
  refine (numbers_ok ns h).ok ?_
  rintro _ _ ⟨ds, rfl, rfl, hN, _⟩
  generalize D.fl (ns.map D.int) = NS
  walk_at "ds"
  have hD : Dr [O.lst ds, .lst [.ref 0, .int 0]] [] := ⟨ds, 0, rfl, hN, Int.le_refl 0⟩
  refine (given_ok hD).ok ?_
  rintro _ M1 ⟨p, t, v, b, rfl, g, hv⟩
  clear hD
  walk_at "ds"
  refine wp_ifb (c := b = true) ?_ (fun hb => ?_) (fun hb => ?_)
  · walk_at "di"
    rw [g]
    walk_at "di"
    exact ⟨_, rfl, Iff.rfl⟩
  · obtain ⟨n, T, rfl, rfl, hT, hn, hd, hs⟩ := hv.good hb
    have r1 := fun M => refused_no (M := M) hT hn hd hs
    have r2 := fun M => refused_no4 (d := tD T) (M := M) hn
    generalize tD T = S at g r1 r2
    walk_at "ds"
    rw [g]
    walk_at "ds"
    rw [g]
    walk_at "ds"
    refine (r1 _).ok ?_
    rintro _ _ ⟨rfl, X, rfl⟩
    walk_at "ds"
    have g2 := get_old (Z := X) g
    rw [g2]
    walk_at "ds"
    rw [g2]
    walk_at "ds"
    refine (r2 _).ok ?_
    rintro _ _ ⟨rfl, X2, rfl⟩
    walk_at "ds"
  have hb : b = false := by cases b with
    | false => rfl
    | true => exact (hb rfl).elim
  obtain ⟨hr, hvv⟩ := hv.bad hb
  refine wp_nil ?_
  walk_at "ds"
  refine wp_forL (fun i r M2 => ∃ X a3, r = [some NS, some (.ref 1), some (.ref p), a3] ∧ M2 = M1 ++ X) ?_ ?_ ?_
  · rintro i d r M2 hd ⟨X, a3, rfl, rfl⟩
    obtain ⟨hi, rfl⟩ := ints_get hd
    have g2 := get_old (Z := X) g
    have ry := refused_yes (w := 0 + (i : Int)) (hr.app (X := X)) ⟨by omega, by omega⟩
    refine ⟨by simp, _, rfl, ?_⟩
    walk_at "di"
    rw [g2]
    walk_at "di"
    rw [g2]
    walk_at "di"
    refine ry.ok ?_
    rintro _ _ ⟨rfl, X2, rfl⟩
    walk_at "di"
    exact ⟨_, _, rfl, List.append_assoc _ _ _⟩
  · rintro r M2 ⟨X, a3, rfl, rfl⟩
    have g2 := get_old (Z := X) g
    refine ⟨by simp, ?_⟩
    walk_at "ds"
    refine wp_ifb (c := BadV v) ?_ (fun hb => ?_) (fun hb => ?_)
    · rcases hvv with (rfl | rfl | rfl | rfl) | ⟨n, rfl, hn⟩
      · iterate 4 (walk_at "di"; try rw [g2])
        exact ⟨_, rfl, by simp [BadV]⟩
      · iterate 4 (walk_at "di"; try rw [g2])
        walk_at "di"
        exact ⟨_, rfl, by simp [BadV]⟩
      · iterate 4 (walk_at "di"; try rw [g2])
        exact ⟨_, rfl, by simp [BadV]⟩
      · iterate 4 (walk_at "di"; try rw [g2])
        exact ⟨_, rfl, by simp [BadV]⟩
      · walk_at "di"
        rw [g2]
        walk_at "di"
        rw [g2]
        walk_at "di"
        rw [g2]
        walk_at "di"
        rw [if_neg (by omega), g2]
        walk_at "di"
        refine ⟨_, rfl, ?_⟩
        rw [decide_eq_true_iff]
        unfold BadV
        simp
        omega
    · have r2 := refused_prime (d := t) (M := M1 ++ X) hb
      walk_at "ds"
      rw [g2]
      walk_at "ds"
      rw [g2]
      walk_at "ds"
      refine r2.ok ?_
      rintro _ _ ⟨rfl, X2, rfl⟩
      walk_at "ds"
    · walk_at "ds"
  · exact ⟨[], none, rfl, by rw [List.append_nil]⟩
theorem law_true (ns : List Int) (h : ns.length ≤ 63) : ∃ M, m_law [.fl (ns.map D.int)] [] = some (.ok (.bl true) M) := wp_law (law_ok ns h)
end G

end

section
set_option Elab.async false
set_option linter.all false
set_option maxRecDepth 100000
set_option maxHeartbeats 4000000
namespace E
open PySem PySem.Spec PyProof.Rows L2 DI G
theorem gi {mg : Str → Option Value} {x : Str} {i : Int} (h : ∃ t, mg x = some (.int i t)) : ∃ u, mg x = some u ∧ RelV (.int i) u := by
  obtain ⟨t, h⟩ := h
  exact ⟨_, h, t, rfl⟩
theorem facts {P : Program} {w : World} {K : PySem.W.Frag} {h : Heap} {mg : Str → Option Value} {f : Addr} (X : K.In h) (G : h.Ns mainGlobals mg) (hfa : mg ("law" : Str) = some (.ref f)) (c : He.SaysD fa fn K) (cx : (exl K).all id = true) :
    ∃ fd : FuncData, (∀ (s : Shared) (v : Value), BindsTo s fd ⟨[v], []⟩ [("_law_script", v)]) ∧ ∀ base : Heap, K.In base → base.Ns mainGlobals mg → FnOk P w K mg base (L2.CX P w) 66 f fd P_law (spD K mg 1 m_law) := by
  obtain ⟨fd__law_mixed, FD__law_mixed⟩ := c.def_ 0 (d := e__law_mixed) rfl
  obtain ⟨fd__law_draw, FD__law_draw⟩ := c.def_ 1 (d := e__law_draw) rfl
  obtain ⟨fd__law_table, FD__law_table⟩ := c.def_ 2 (d := e__law_table) rfl
  obtain ⟨fd__law_tree, FD__law_tree⟩ := c.def_ 3 (d := e__law_tree) rfl
  obtain ⟨fd__law_bad_number, FD__law_bad_number⟩ := c.def_ 4 (d := e__law_bad_number) rfl
  obtain ⟨fd__law_bad_table, FD__law_bad_table⟩ := c.def_ 5 (d := e__law_bad_table) rfl
  obtain ⟨fd__law_spoilt, FD__law_spoilt⟩ := c.def_ 6 (d := e__law_spoilt) rfl
  obtain ⟨fd__law_comb, FD__law_comb⟩ := c.def_ 7 (d := e__law_comb) rfl
  obtain ⟨fd__law_broad, FD__law_broad⟩ := c.def_ 8 (d := e__law_broad) rfl
  obtain ⟨fd__law_given, FD__law_given⟩ := c.def_ 9 (d := e__law_given) rfl
  obtain ⟨fd__law_numbers, FD__law_numbers⟩ := c.def_ 10 (d := e__law_numbers) rfl
  obtain ⟨fd_is_integer, FD_is_integer⟩ := c.def_ 11 (d := e_is_integer) rfl
  obtain ⟨fd_is_number, FD_is_number⟩ := c.def_ 12 (d := e_is_number) rfl
  obtain ⟨fd_is_leaf, FD_is_leaf⟩ := c.def_ 13 (d := e_is_leaf) rfl
  obtain ⟨fd_is_table, FD_is_table⟩ := c.def_ 14 (d := e_is_table) rfl
  obtain ⟨fd_is_inner, FD_is_inner⟩ := c.def_ 15 (d := e_is_inner) rfl
  obtain ⟨fd_listed, FD_listed⟩ := c.def_ 16 (d := e_listed) rfl
  obtain ⟨fd_rows_of, FD_rows_of⟩ := c.def_ 17 (d := e_rows_of) rfl
  obtain ⟨fd_tree_value, FD_tree_value⟩ := c.def_ 18 (d := e_tree_value) rfl
  obtain ⟨fd_check_tree, FD_check_tree⟩ := c.def_ 19 (d := e_check_tree) rfl
  obtain ⟨fd_is_prime, FD_is_prime⟩ := c.def_ 20 (d := e_is_prime) rfl
  obtain ⟨fd_prime_of, FD_prime_of⟩ := c.def_ 21 (d := e_prime_of) rfl
  obtain ⟨fd_tree_cost, FD_tree_cost⟩ := c.def_ 22 (d := e_tree_cost) rfl
  obtain ⟨fd_is_factor, FD_is_factor⟩ := c.def_ 23 (d := e_is_factor) rfl
  obtain ⟨fd_is_add, FD_is_add⟩ := c.def_ 24 (d := e_is_add) rfl
  obtain ⟨fd_is_look, FD_is_look⟩ := c.def_ 25 (d := e_is_look) rfl
  obtain ⟨fd_inverse_of, FD_inverse_of⟩ := c.def_ 26 (d := e_inverse_of) rfl
  obtain ⟨fd_is_step, FD_is_step⟩ := c.def_ 27 (d := e_is_step) rfl
  obtain ⟨fd_check_steps, FD_check_steps⟩ := c.def_ 28 (d := e_check_steps) rfl
  obtain ⟨fd_Program___init__, FD_Program___init__⟩ := c.def_ 29 (d := e_Program___init__) rfl
  obtain ⟨fd_round_tasks, FD_round_tasks⟩ := c.def_ 30 (d := e_round_tasks) rfl
  obtain ⟨fd_compile_tree, FD_compile_tree⟩ := c.def_ 31 (d := e_compile_tree) rfl
  obtain ⟨fd__law_refused, FD__law_refused⟩ := c.def_ 32 (d := e__law_refused) rfl
  obtain ⟨fd_law, FD_law⟩ := c.def_ 33 (d := e_law) rfl
  have e := hfa.symm.trans (He.glo_ok X G (c.fact 71 (f := .glo "law") rfl))
  cases e
  have b := FunD.bindsA (ps := P_law) FD_law fun _ _ _ _ _ _ us hl => match us, hl with | [_], _ => rfl
  refine ⟨fd_law, fun s v => b s [v] rfl, fun base _ _ => ?_⟩
  have D__law_mixed := d__law_mixed (P := P) (w := w) (base := base) FD__law_mixed (He.glo_ok X G (c.fact 0 (f := .glo "_law_mixed") rfl)) 
  have D__law_draw := d__law_draw (P := P) (w := w) (base := base) FD__law_draw (He.glo_ok X G (c.fact 2 (f := .glo "_law_draw") rfl)) (He.free_ok X G (c.fact 1 (f := .free "len") rfl)) D__law_mixed
  have D__law_table := d__law_table (P := P) (w := w) (base := base) FD__law_table (He.glo_ok X G (c.fact 5 (f := .glo "_law_table") rfl)) (He.free_ok X G (c.fact 3 (f := .free "range") rfl)) (He.free_ok X G (c.fact 4 (f := .free "tuple") rfl)) D__law_draw
  have DG := dr__law_tree (P := P) (w := w) (base := base) FD__law_tree (He.glo_ok X G (c.fact 6 (f := .glo "_law_tree") rfl)) D__law_draw D__law_table 60
  have D__law_tree : Dfn P w K mg base 63 "_law_tree" 4 m__law_tree := DG
  have D__law_bad_number := d__law_bad_number (P := P) (w := w) (base := base) FD__law_bad_number (He.glo_ok X G (c.fact 7 (f := .glo "_law_bad_number") rfl)) D__law_draw
  have D__law_bad_table := d__law_bad_table (P := P) (w := w) (base := base) FD__law_bad_table (He.glo_ok X G (c.fact 11 (f := .glo "_law_bad_table") rfl)) (He.free_ok X G (c.fact 8 (f := .free "list") rfl)) (He.free_ok X G (c.fact 4 (f := .free "tuple") rfl)) (He.free_ok X G (c.fact 9 (f := .free "max") rfl)) (He.free_ok X G (c.fact 10 (f := .free "min") rfl)) D__law_draw D__law_bad_number
  have DG := dr__law_spoilt (P := P) (w := w) (base := base) FD__law_spoilt (He.glo_ok X G (c.fact 12 (f := .glo "_law_spoilt") rfl)) (He.free_ok X G (c.fact 8 (f := .free "list") rfl)) D__law_bad_number D__law_draw D__law_bad_table 60
  have D__law_spoilt : Dfn P w K mg base 64 "_law_spoilt" 3 m__law_spoilt := DG
  have D__law_comb := d__law_comb (P := P) (w := w) (base := base) FD__law_comb (He.glo_ok X G (c.fact 13 (f := .glo "_law_comb") rfl)) (He.free_ok X G (c.fact 3 (f := .free "range") rfl))
  have D__law_broad := d__law_broad (P := P) (w := w) (base := base) FD__law_broad (He.glo_ok X G (c.fact 14 (f := .glo "_law_broad") rfl)) (He.free_ok X G (c.fact 3 (f := .free "range") rfl)) (He.free_ok X G (c.fact 1 (f := .free "len") rfl))
  have D__law_given := d__law_given (P := P) (w := w) (base := base) FD__law_given (He.glo_ok X G (c.fact 16 (f := .glo "_law_given") rfl)) (He.free_ok X G (c.fact 15 (f := .free "int") rfl)) (He.free_ok X G (c.fact 10 (f := .free "min") rfl)) D__law_draw D__law_tree D__law_spoilt D__law_comb D__law_broad
  have D__law_numbers := d__law_numbers (P := P) (w := w) (base := base) FD__law_numbers (He.glo_ok X G (c.fact 17 (f := .glo "_law_numbers") rfl)) (He.free_ok X G (c.fact 3 (f := .free "range") rfl)) D__law_mixed
  have D_is_integer := d_is_integer (P := P) (w := w) (base := base) FD_is_integer (He.glo_ok X G (c.fact 20 (f := .glo "is_integer") rfl)) (He.free_ok X G (c.fact 18 (f := .free "isinstance") rfl)) (He.free_ok X G (c.fact 15 (f := .free "int") rfl)) (He.free_ok X G (c.fact 19 (f := .free "bool") rfl))
  have D_is_number := d_is_number (P := P) (w := w) (base := base) FD_is_number (He.glo_ok X G (c.fact 21 (f := .glo "is_number") rfl)) D_is_integer
  have D_is_leaf := d_is_leaf (P := P) (w := w) (base := base) FD_is_leaf (He.glo_ok X G (c.fact 22 (f := .glo "is_leaf") rfl)) (He.free_ok X G (c.fact 18 (f := .free "isinstance") rfl)) (He.free_ok X G (c.fact 4 (f := .free "tuple") rfl)) (He.free_ok X G (c.fact 1 (f := .free "len") rfl)) D_is_number
  have D_is_table := d_is_table (P := P) (w := w) (base := base) FD_is_table (He.glo_ok X G (c.fact 23 (f := .glo "is_table") rfl)) (He.free_ok X G (c.fact 18 (f := .free "isinstance") rfl)) (He.free_ok X G (c.fact 4 (f := .free "tuple") rfl)) (He.free_ok X G (c.fact 1 (f := .free "len") rfl)) D_is_number
  have D_is_inner := d_is_inner (P := P) (w := w) (base := base) FD_is_inner (He.glo_ok X G (c.fact 24 (f := .glo "is_inner") rfl)) (He.free_ok X G (c.fact 18 (f := .free "isinstance") rfl)) (He.free_ok X G (c.fact 4 (f := .free "tuple") rfl)) (He.free_ok X G (c.fact 1 (f := .free "len") rfl)) D_is_table
  have D_listed := d_listed (P := P) (w := w) (base := base) FD_listed (He.glo_ok X G (c.fact 29 (f := .glo "listed") rfl)) (He.free_ok X G (c.fact 1 (f := .free "len") rfl)) (gi (He.int_ok X G (c.fact 25 (f := .int "NESTED"  40) rfl))) (gi (He.int_ok X G (c.fact 26 (f := .int "NODES"  200) rfl))) D_is_leaf D_is_inner (xcl_of (He.glo_ok X G (c.fact 27 (f := .glo "BadTree") rfl)) (c.fact 28 (f := .exc "BadTree") rfl))
  have D_rows_of := d_rows_of (P := P) (w := w) (base := base) FD_rows_of (He.glo_ok X G (c.fact 31 (f := .glo "rows_of") rfl)) (He.free_ok X G (c.fact 1 (f := .free "len") rfl)) (gi (He.int_ok X G (c.fact 30 (f := .int "VALUES"  40) rfl))) (gi (He.int_ok X G (c.fact 26 (f := .int "NODES"  200) rfl))) D_is_integer D_listed (xcl_of (He.glo_ok X G (c.fact 27 (f := .glo "BadTree") rfl)) (c.fact 28 (f := .exc "BadTree") rfl))
  have D_tree_value := d_tree_value (P := P) (w := w) (base := base) FD_tree_value (He.glo_ok X G (c.fact 32 (f := .glo "tree_value") rfl)) D_rows_of
  have D_check_tree := d_check_tree (P := P) (w := w) (base := base) FD_check_tree (He.glo_ok X G (c.fact 33 (f := .glo "check_tree") rfl)) D_rows_of
  have D_is_prime := d_is_prime (P := P) (w := w) (base := base) FD_is_prime (He.glo_ok X G (c.fact 34 (f := .glo "is_prime") rfl)) 
  have D_prime_of := d_prime_of (P := P) (w := w) (base := base) FD_prime_of (He.glo_ok X G (c.fact 35 (f := .glo "prime_of") rfl)) (He.free_ok X G (c.fact 9 (f := .free "max") rfl)) (gi (He.int_ok X G (c.fact 30 (f := .int "VALUES"  40) rfl))) D_is_integer D_is_prime (xcl_of (He.glo_ok X G (c.fact 27 (f := .glo "BadTree") rfl)) (c.fact 28 (f := .exc "BadTree") rfl))
  have D_tree_cost := d_tree_cost (P := P) (w := w) (base := base) FD_tree_cost (He.glo_ok X G (c.fact 36 (f := .glo "tree_cost") rfl)) D_rows_of D_prime_of
  have D_is_factor := d_is_factor (P := P) (w := w) (base := base) FD_is_factor (He.glo_ok X G (c.fact 37 (f := .glo "is_factor") rfl)) (He.free_ok X G (c.fact 18 (f := .free "isinstance") rfl)) (He.free_ok X G (c.fact 4 (f := .free "tuple") rfl)) (He.free_ok X G (c.fact 1 (f := .free "len") rfl)) D_is_number
  have D_is_add := d_is_add (P := P) (w := w) (base := base) FD_is_add (He.glo_ok X G (c.fact 39 (f := .glo "is_add") rfl)) (He.free_ok X G (c.fact 18 (f := .free "isinstance") rfl)) (He.free_ok X G (c.fact 4 (f := .free "tuple") rfl)) (He.free_ok X G (c.fact 1 (f := .free "len") rfl)) (gi (He.int_ok X G (c.fact 38 (f := .int "FACTORS"  3) rfl))) D_is_number D_is_factor
  have D_is_look := d_is_look (P := P) (w := w) (base := base) FD_is_look (He.glo_ok X G (c.fact 40 (f := .glo "is_look") rfl)) D_is_number D_is_integer D_is_table
  have D_inverse_of := d_inverse_of (P := P) (w := w) (base := base) FD_inverse_of (He.glo_ok X G (c.fact 41 (f := .glo "inverse_of") rfl)) 
  have D_is_step := d_is_step (P := P) (w := w) (base := base) FD_is_step (He.glo_ok X G (c.fact 42 (f := .glo "is_step") rfl)) (He.free_ok X G (c.fact 18 (f := .free "isinstance") rfl)) (He.free_ok X G (c.fact 4 (f := .free "tuple") rfl)) (He.free_ok X G (c.fact 1 (f := .free "len") rfl)) D_is_add D_is_number D_inverse_of D_is_look
  have D_check_steps := d_check_steps (P := P) (w := w) (base := base) FD_check_steps (He.glo_ok X G (c.fact 45 (f := .glo "check_steps") rfl)) (He.free_ok X G (c.fact 18 (f := .free "isinstance") rfl)) (He.free_ok X G (c.fact 8 (f := .free "list") rfl)) (He.free_ok X G (c.fact 1 (f := .free "len") rfl)) D_is_step D_is_prime (xcl_of (He.glo_ok X G (c.fact 43 (f := .glo "BadStep") rfl)) (c.fact 44 (f := .exc "BadStep") rfl))
  have D_Program___init__ := d_Program___init__ (P := P) (w := w) (base := base) FD_Program___init__ (He.glo_ok X G (c.fact 54 (f := .glo "Program") rfl)) (He.mkr_ok (c.fact 56 (f := .mkr "Program") rfl)) (He.free_ok X G (c.fact 8 (f := .free "list") rfl)) (gi (He.int_ok X G (c.fact 46 (f := .int "MODULUS"  1000000000) rfl))) (gi (He.int_ok X G (c.fact 47 (f := .int "CELLS"  60) rfl))) (gi (He.int_ok X G (c.fact 48 (f := .int "INPUTS"  60) rfl))) (gi (He.int_ok X G (c.fact 49 (f := .int "STEPS"  20000) rfl))) D_is_integer D_check_steps (xcl_of (He.glo_ok X G (c.fact 43 (f := .glo "BadStep") rfl)) (c.fact 44 (f := .exc "BadStep") rfl)) ⟨_, (He.glo_ok X G (c.fact 54 (f := .glo "Program") rfl)), He.cls_ok (c.fact 55 (f := .cls "Program") rfl), (List.forall_mem_cons.mpr ⟨He.noat_ok (c.fact 53 (f := .noat "Program" "modulus") rfl), (List.forall_mem_cons.mpr ⟨He.noat_ok (c.fact 52 (f := .noat "Program" "cells") rfl), (List.forall_mem_cons.mpr ⟨He.noat_ok (c.fact 51 (f := .noat "Program" "inputs") rfl), (List.forall_mem_cons.mpr ⟨He.noat_ok (c.fact 50 (f := .noat "Program" "steps") rfl), (fun _ h => nomatch h)⟩)⟩)⟩)⟩)⟩
  have D_round_tasks := d_round_tasks (P := P) (w := w) (base := base) FD_round_tasks (He.glo_ok X G (c.fact 57 (f := .glo "round_tasks") rfl)) (He.free_ok X G (c.fact 3 (f := .free "range") rfl)) D_inverse_of
  have D_compile_tree := d_compile_tree (P := P) (w := w) (base := base) FD_compile_tree (He.glo_ok X G (c.fact 60 (f := .glo "compile_tree") rfl)) (He.free_ok X G (c.fact 1 (f := .free "len") rfl)) (He.free_ok X G (c.fact 3 (f := .free "range") rfl)) (gi (He.int_ok X G (c.fact 49 (f := .int "STEPS"  20000) rfl))) D_rows_of D_tree_cost D_prime_of D_is_integer D_round_tasks D_Program___init__ (xcl_of (He.glo_ok X G (c.fact 58 (f := .glo "TooLong") rfl)) (c.fact 59 (f := .exc "TooLong") rfl))
  have D__law_refused := d__law_refused (P := P) (w := w) (base := base) FD__law_refused (He.glo_ok X G (c.fact 70 (f := .glo "_law_refused") rfl)) (He.free_ok X G (c.fact 18 (f := .free "isinstance") rfl)) D_check_tree D_tree_value D_tree_cost D_compile_tree D_prime_of (isI_of (He.glo_ok X G (c.fact 61 (f := .glo "BrimfulError") rfl)) (List.forall_mem_cons.mpr ⟨⟨(He.glo_ok X G (c.fact 61 (f := .glo "BrimfulError") rfl)), excB_ok (ex_at cx 10), kitB_ok (v := (.ref (He.ga K "BrimfulError"))) (b := true) (ex_at cx 11)⟩, (List.forall_mem_cons.mpr ⟨⟨(He.glo_ok X G (c.fact 43 (f := .glo "BadStep") rfl)), excB_ok (ex_at cx 8), kitB_ok (v := (.ref (He.ga K "BrimfulError"))) (b := true) (ex_at cx 9)⟩, (List.forall_mem_cons.mpr ⟨⟨(He.glo_ok X G (c.fact 63 (f := .glo "BadMemory") rfl)), excB_ok (ex_at cx 6), kitB_ok (v := (.ref (He.ga K "BrimfulError"))) (b := true) (ex_at cx 7)⟩, (List.forall_mem_cons.mpr ⟨⟨(He.glo_ok X G (c.fact 62 (f := .glo "BadSource") rfl)), excB_ok (ex_at cx 4), kitB_ok (v := (.ref (He.ga K "BrimfulError"))) (b := true) (ex_at cx 5)⟩, (List.forall_mem_cons.mpr ⟨⟨(He.glo_ok X G (c.fact 58 (f := .glo "TooLong") rfl)), excB_ok (ex_at cx 2), kitB_ok (v := (.ref (He.ga K "BrimfulError"))) (b := true) (ex_at cx 3)⟩, (List.forall_mem_cons.mpr ⟨⟨(He.glo_ok X G (c.fact 27 (f := .glo "BadTree") rfl)), excB_ok (ex_at cx 0), kitB_ok (v := (.ref (He.ga K "BrimfulError"))) (b := true) (ex_at cx 1)⟩, (fun _ h => nomatch h)⟩)⟩)⟩)⟩)⟩)⟩)) (isT_of (List.forall_mem_cons.mpr ⟨(He.glo_ok X G (c.fact 63 (f := .glo "BadMemory") rfl)), (List.forall_mem_cons.mpr ⟨(He.glo_ok X G (c.fact 62 (f := .glo "BadSource") rfl)), (List.forall_mem_cons.mpr ⟨(He.glo_ok X G (c.fact 43 (f := .glo "BadStep") rfl)), (List.forall_mem_cons.mpr ⟨(He.glo_ok X G (c.fact 58 (f := .glo "TooLong") rfl)), (fun _ h => nomatch h)⟩)⟩)⟩)⟩) (List.forall_mem_cons.mpr ⟨⟨(He.glo_ok X G (c.fact 61 (f := .glo "BrimfulError") rfl)), excB_ok (ex_at cx 10), kitT_ok (cs := ["BadMemory", "BadSource", "BadStep", "TooLong"]) (b := false) (ex_at cx 17)⟩, (List.forall_mem_cons.mpr ⟨⟨(He.glo_ok X G (c.fact 43 (f := .glo "BadStep") rfl)), excB_ok (ex_at cx 8), kitT_ok (cs := ["BadMemory", "BadSource", "BadStep", "TooLong"]) (b := true) (ex_at cx 16)⟩, (List.forall_mem_cons.mpr ⟨⟨(He.glo_ok X G (c.fact 63 (f := .glo "BadMemory") rfl)), excB_ok (ex_at cx 6), kitT_ok (cs := ["BadMemory", "BadSource", "BadStep", "TooLong"]) (b := true) (ex_at cx 15)⟩, (List.forall_mem_cons.mpr ⟨⟨(He.glo_ok X G (c.fact 62 (f := .glo "BadSource") rfl)), excB_ok (ex_at cx 4), kitT_ok (cs := ["BadMemory", "BadSource", "BadStep", "TooLong"]) (b := true) (ex_at cx 14)⟩, (List.forall_mem_cons.mpr ⟨⟨(He.glo_ok X G (c.fact 58 (f := .glo "TooLong") rfl)), excB_ok (ex_at cx 2), kitT_ok (cs := ["BadMemory", "BadSource", "BadStep", "TooLong"]) (b := true) (ex_at cx 13)⟩, (List.forall_mem_cons.mpr ⟨⟨(He.glo_ok X G (c.fact 27 (f := .glo "BadTree") rfl)), excB_ok (ex_at cx 0), kitT_ok (cs := ["BadMemory", "BadSource", "BadStep", "TooLong"]) (b := false) (ex_at cx 12)⟩, (fun _ h => nomatch h)⟩)⟩)⟩)⟩)⟩)⟩)) (hnd_of (He.glo_ok X G (c.fact 27 (f := .glo "BadTree") rfl)) (List.forall_mem_cons.mpr ⟨⟨(He.glo_ok X G (c.fact 61 (f := .glo "BrimfulError") rfl)), He.exm_ok (c.fact 69 (f := .exm "BrimfulError" "BadTree" false) rfl)⟩, (List.forall_mem_cons.mpr ⟨⟨(He.glo_ok X G (c.fact 43 (f := .glo "BadStep") rfl)), He.exm_ok (c.fact 68 (f := .exm "BadStep" "BadTree" false) rfl)⟩, (List.forall_mem_cons.mpr ⟨⟨(He.glo_ok X G (c.fact 63 (f := .glo "BadMemory") rfl)), He.exm_ok (c.fact 67 (f := .exm "BadMemory" "BadTree" false) rfl)⟩, (List.forall_mem_cons.mpr ⟨⟨(He.glo_ok X G (c.fact 62 (f := .glo "BadSource") rfl)), He.exm_ok (c.fact 66 (f := .exm "BadSource" "BadTree" false) rfl)⟩, (List.forall_mem_cons.mpr ⟨⟨(He.glo_ok X G (c.fact 58 (f := .glo "TooLong") rfl)), He.exm_ok (c.fact 65 (f := .exm "TooLong" "BadTree" false) rfl)⟩, (List.forall_mem_cons.mpr ⟨⟨(He.glo_ok X G (c.fact 27 (f := .glo "BadTree") rfl)), He.exm_ok (c.fact 64 (f := .exm "BadTree" "BadTree" true) rfl)⟩, (fun _ h => nomatch h)⟩)⟩)⟩)⟩)⟩)⟩))
  exact w_law FD_law (He.free_ok X G (c.fact 3 (f := .free "range") rfl)) (He.free_ok X G (c.fact 18 (f := .free "isinstance") rfl)) (He.free_ok X G (c.fact 19 (f := .free "bool") rfl)) D__law_numbers D__law_given D__law_refused
end E
open PySem PySem.W PySem.Calls PyProof.Rows
theorem PySem.Challenge.cw_brimful_k37_trees_are_checked_holds : PySem.Challenge.rw_brimful_k37_trees_are_checked.Holds := by
  w_on; o_law
  refine HandSHeadRun.head_any (r := OpenLaw.row PySem.Challenge.rw_brimful_k37_trees_are_checked) (q := view (OpenLaw.row PySem.Challenge.rw_brimful_k37_trees_are_checked).prog [55]) (H := E.hk) (ob := E.ob) (M := 20000) (loose := E.loose) (d := HandSHeadRun.topDef (OpenLaw.row PySem.Challenge.rw_brimful_k37_trees_are_checked).prog 55) (kwd := []) E.ob_eq
    (by kernel_rfl) (fun s => by kernel_rfl) E.run (by kernel_rfl) (by kernel_rfl) (by kernel_rfl) (by rfl) (by first | assumption | decide +kernel) (by decide +kernel) ⟨rfl, rfl, rfl, rfl, rfl, by decide +kernel⟩ ?hw ?hc
  case hw => w_witness2
  case hc =>
    refine L2.walk_ofE (l := PySem.Challenge.rw_brimful_k37_trees_are_checked) (n := 63) (k := 66) (x := "_law_script") (CX := L2.CX0) rfl (by decide) (by kernel_rfl) ⟨rfl, by decide, by decide⟩ ?F (fun _ _ _ _ z => z)
    intro w mg fa h Y GN hmg0
    obtain ⟨K, KX, c, cx⟩ := Y
    have hmg : mg ("law" : PySem.Str) = some (.ref fa) := by
      have e : (HandSHeadRun.topDef (OpenLaw.row PySem.Challenge.rw_brimful_k37_trees_are_checked).prog 55).name = ("law" : PySem.Str) := by kernel_rfl
      rw [← e]
      exact hmg0
    obtain ⟨fd, hb, hF⟩ := E.facts (P := (PySem.Challenge.rw_brimful_k37_trees_are_checked).prog) (w := w) KX GN hmg c cx
    exact ⟨K, fd, fun vs H Q _ => DI.spD K mg 1 G.m_law vs H Q fun _ _ _ => False, KX, hb, fun H a ns hl hO hS => DI.sp_law G.law_true H a ns hl hO hS, fun base h1 h2 => DI.calm_of (hF base h1 h2)⟩
#print axioms PySem.Challenge.cw_brimful_k37_trees_are_checked_holds

end
