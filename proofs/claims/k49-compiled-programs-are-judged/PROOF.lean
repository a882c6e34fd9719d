import PyProof.Rows.All
import Wide.All
import OpenK.AllK
import Wide.FinOn
import HandS.ForMost
import HandS.ForExc
import HandS.TupAny
import HandS.CallSlots
import HandS.Flow
import HandS.Style
import HandS.Wide
import KE.DataEq
import HandS.IsInst
import HandS.Defaults
import HandS.Iter
import HandS.Zip
import KE.GoesZip
import KE.GoesMore
import KE.GoesEnum
import HandS.SortInts
import HandS.TryOnly
import HandS.ExcIs
import HandS.ExcOwn
import HandS.HeadHook1
import HandS.HeadHook2
import PyProof.TupleOfSeq
import HandS.ExcValue
import HandS.Dict
import HandS.More
import HandS.HeadHook3
import KE.KIsAll
import HandS.List
import KE.KExcPX
import KE.KOpsOwn
import HandS.Flt
import HandS.NoneIn
import HandS.Codes
import HandS.Property
import HandS.ReCall
import KE.KIndexOf
import HandS.Comp
import KE.KDictKeyed
import HandS.TupLe
import HandS.Text
import HandS.FStr
import KE.KStateDown
import Lean
import HandS.DictTup
import HandS.StrMore
import HandS.TryMany
import HandS.RaiseFrom
import HandS.SuiteRaise
import HandS.Head0
import HandS.Head1
import HandS.Head2
import HandS.HeadEnd
import PySem.Challenge.RW_brimful_k49_compiled_programs_are_judged
section
set_option Elab.async false
set_option linter.all false
set_option maxRecDepth 100000
set_option maxHeartbeats 2000000
/-! DI1: plain data, the data heap, what expressions and statements do to them. -/
namespace DI
open PySem L2

inductive D where
  | non | bl (b : Bool) | int (i : Int) | str (x : Str)
  | tup (ds : List D) | fl (ds : List D) | ref (i : Nat)

/-- a mutable thing -/
inductive O where
  | lst (ds : List D) | dic (kvs : List (Str × D)) | dct (kvs : List (List Int × D)) | ins (c : Str) (fs : List (Str × D))

abbrev Hd := List O
abbrev Ev := List (Option D)
/-- an outcome: a value, or an own exception by its class's name -/
inductive Rs (α : Type) where
  | ok (a : α) (M : Hd) | er (c : Str) (M : Hd)
abbrev EF := Ev → Hd → Option (Rs D)
abbrev TF := Ev → Hd → Option (Rs Bool)
abbrev AF := Ev → Hd → Option (Rs (List D))
inductive Fl where
  | nx (r : Ev) | rt (d : D) | bk (r : Ev) | ct (r : Ev) | xx (c : Str) (r : Ev)
abbrev SF := Ev → Hd → Option (Fl × Hd)

def bnd {α β : Type} (x : Option (Rs α)) (k : α → Hd → Option (Rs β)) : Option (Rs β) := match x with
  | some (.ok a M) => k a M
  | some (.er c M) => some (.er c M)
  | none => none
@[simp] theorem bnd_ok {α β : Type} (a : α) (M : Hd) (k : α → Hd → Option (Rs β)) : bnd (some (.ok a M)) k = k a M := rfl
@[simp] theorem bnd_er {α β : Type} (c : Str) (M : Hd) (k : α → Hd → Option (Rs β)) : bnd (some (.er c M)) k = some (.er c M) := rfl
@[simp] theorem bnd_none {α β : Type} (k : α → Hd → Option (Rs β)) : bnd none k = none := rfl
/-- an expression's outcome within a statement -/
def exB {α : Type} (x : Option (Rs α)) (r : Ev) (k : α → Hd → Option (Fl × Hd)) : Option (Fl × Hd) := match x with
  | some (.ok a M) => k a M
  | some (.er c M) => some (.xx c r, M)
  | none => none
@[simp] theorem exB_ok {α : Type} (a : α) (M : Hd) (r : Ev) (k : α → Hd → Option (Fl × Hd)) : exB (some (.ok a M)) r k = k a M := rfl
@[simp] theorem exB_er {α : Type} (c : Str) (M : Hd) (r : Ev) (k : α → Hd → Option (Fl × Hd)) : exB (some (.er c M) : Option (Rs α)) r k = some (.xx c r, M) := rfl
@[simp] theorem exB_none {α : Type} (r : Ev) (k : α → Hd → Option (Fl × Hd)) : exB (none : Option (Rs α)) r k = none := rfl
/-- a pure outcome -/
def pr {α : Type} (M : Hd) (x : Option α) : Option (Rs α) := match x with
  | some a => some (.ok a M)
  | none => none
@[simp] theorem pr_some {α : Type} (M : Hd) (a : α) : pr M (some a) = some (.ok a M) := rfl
@[simp] theorem pr_none {α : Type} (M : Hd) : pr M (none : Option α) = none := rfl
/-- a thing of the heap -/
def at? (M : Hd) (i : Nat) : Option O := M[i]?

/-! ### expressions -/
def eVar (i : Nat) : EF := fun r M => match r[i]? with
  | some (some d) => some (.ok d M)
  | _ => none
def eC (d : D) : EF := fun _ M => some (.ok d M)
abbrev G2 := D → D → Hd → Option (Rs D)
def eOp (g : G2) (fa fb : EF) : EF := fun r M => bnd (fa r M) fun x M1 => bnd (fb r M1) fun y M2 => g x y M2
def eUn (g : D → Hd → Option (Rs D)) (fa : EF) : EF := fun r M => bnd (fa r M) fun x M1 => g x M1
def eCall (m : List D → Hd → Option (Rs D)) (fa : AF) : EF := fun r M => bnd (fa r M) fun ds M1 => m ds M1
def aNil : AF := fun _ M => some (.ok [] M)
def aCons (f : EF) (g : AF) : AF := fun r M => bnd (f r M) fun d M1 => bnd (g r M1) fun ds M2 => some (.ok (d :: ds) M2)
def eTup (fa : AF) : EF := fun r M => bnd (fa r M) fun ds M1 => if ds.length ≤ 16777216 then some (.ok (.tup ds) M1) else none
def eLst (fa : AF) : EF := fun r M => bnd (fa r M) fun ds M1 => if ds.length ≤ 16777216 then some (.ok (.ref M1.length) (M1 ++ [.lst ds])) else none
def eIf (t : TF) (fa fb : EF) : EF := fun r M => bnd (t r M) fun b M1 => if b = true then fa r M1 else fb r M1
/-- two comparisons in a chain -/
def eChain (g g' : G2) (fa fb fc : EF) : EF := fun r M => bnd (fa r M) fun x M1 => bnd (fb r M1) fun y M2 => bnd (g x y M2) fun z M3 => match z with
  | .bl true => bnd (fc r M3) fun u M4 => g' y u M4
  | .bl false => some (.ok (.bl false) M3)
  | _ => none
/-- tests -/
def bOf (d : D) (M : Hd) : Option (Rs Bool) := match d with
  | .bl b => some (.ok b M)
  | _ => none
def tVal (f : EF) : TF := fun r M => bnd (f r M) bOf
def truD (d : D) (M : Hd) : Option (Rs Bool) := match d with
  | .non => some (.ok false M)
  | .bl b => some (.ok b M)
  | .int i => some (.ok (i != 0) M)
  | .str x => if x.length ≤ 16777216 then some (.ok ((x.length : Int) != 0) M) else none
  | .tup ds => some (.ok (!ds.isEmpty) M)
  | .fl ds => some (.ok (!ds.isEmpty) M)
  | .ref i => match M[i]? with
    | some (.lst ds) => some (.ok (!ds.isEmpty) M)
    | _ => none
def tTru (f : EF) : TF := fun r M => bnd (f r M) truD
def tAnd (t u : TF) : TF := fun r M => bnd (t r M) fun b M1 => if b = true then u r M1 else some (.ok false M1)
def tOr (t u : TF) : TF := fun r M => bnd (t r M) fun b M1 => if b = true then some (.ok true M1) else u r M1
def tNot (t : TF) : TF := fun r M => bnd (t r M) fun b M1 => some (.ok (!b) M1)
/-- and, or, not as values -/
def eAnd (f g : EF) : EF := fun r M => bnd (f r M) fun d M1 => match d with
  | .bl true => g r M1
  | .bl false => some (.ok (.bl false) M1)
  | _ => none
def eOr (f g : EF) : EF := fun r M => bnd (f r M) fun d M1 => match d with
  | .bl true => some (.ok (.bl true) M1)
  | .bl false => g r M1
  | _ => none
def eNot (f : EF) : EF := fun r M => bnd (f r M) fun d M1 => match d with
  | .bl b => some (.ok (.bl (!b)) M1)
  | _ => none

/-! ### operators on data -/
def addG : G2 := fun x y M => match x, y with
  | .int a, .int b => some (.ok (.int (a + b)) M)
  | .str a, .str b => if a.length + b.length ≤ 16777216 then some (.ok (.str (a ++ b)) M) else none
  | .tup a, .tup b => if a.length + b.length ≤ 16777216 then some (.ok (.tup (a ++ b)) M) else none
  | .ref i, .ref j => match M[i]?, M[j]? with
    | some (.lst a), some (.lst b) => if a.length + b.length ≤ 16777216 then some (.ok (.ref M.length) (M ++ [.lst (a ++ b)])) else none
    | _, _ => none
  | _, _ => none
def addIG : G2 := fun x y M => match x, y with
  | .int a, .int b => some (.ok (.int (a + b)) M)
  | _, _ => none
def CMul2 (i j : Int) : Prop := (-(2 ^ 64) < i ∧ i < 2 ^ 64) ∨ (-(2 ^ 64) < j ∧ j < 2 ^ 64)
open Classical in
noncomputable def mulIG : G2 := fun x y M => match x, y with
  | .int a, .int b => if CMul2 a b then some (.ok (.int (a * b)) M) else none
  | _, _ => none
def subG : G2 := fun x y M => match x, y with
  | .int a, .int b => some (.ok (.int (a - b)) M)
  | _, _ => none
def MulOk (a b : Int) : Prop := (-(2 ^ 64) < a ∧ a < 2 ^ 64) ∨ (-(2 ^ 64) < b ∧ b < 2 ^ 64) ∨ a.natAbs.log2 + b.natAbs.log2 < 1000000
open Classical in
noncomputable def mulG : G2 := fun x y M => match x, y with
  | .int a, .int b => if MulOk a b then some (.ok (.int (a * b)) M) else none
  | _, _ => none
def divG : G2 := fun x y M => match x, y with
  | .int a, .int b => if 0 < b ∧ b.natAbs.log2 < 9000 then some (.ok (.int (a / b)) M) else none
  | _, _ => none
def modG : G2 := fun x y M => match x, y with
  | .int a, .int b => if 0 < b then some (.ok (.int (a % b)) M) else none
  | _, _ => none
def powG : G2 := fun x y M => match x, y with
  | .int a, .int b => if 0 ≤ b ∧ b ≤ 1000000 ∧ a.natAbs < 2 ^ 64 then some (.ok (.int (a ^ b.toNat)) M) else none
  | _, _ => none
def shlG : G2 := fun x y M => match x, y with
  | .int a, .int b => if 0 ≤ b ∧ b ≤ 1000000 ∧ a.natAbs < 2 ^ 64 then some (.ok (.int (a * 2 ^ b.toNat)) M) else none
  | _, _ => none
def negG : D → Hd → Option (Rs D) := fun x M => match x with
  | .int a => some (.ok (.int (-a)) M)
  | _ => none
def ltG : G2 := fun x y M => match x, y with
  | .int a, .int b => some (.ok (.bl (decide (a < b))) M)
  | _, _ => none
def leG : G2 := fun x y M => match x, y with
  | .int a, .int b => some (.ok (.bl (decide (a ≤ b))) M)
  | _, _ => none
def gtG : G2 := fun x y M => match x, y with
  | .int a, .int b => some (.ok (.bl (decide (b < a))) M)
  | _, _ => none
def geG : G2 := fun x y M => match x, y with
  | .int a, .int b => some (.ok (.bl (decide (b ≤ a))) M)
  | _, _ => none
/-- data without identity, for == (n: how deep) -/
def toP (M : Hd) : Nat → D → Option PyData
  | _, .non => some .none
  | _, .bl b => some (.bool b)
  | _, .int i => some (.int i)
  | _, .str x => some (.str x)
  | n + 1, .tup ds => (ds.mapM (toP M n)).map .tuple
  | n + 1, .fl ds => (ds.mapM (toP M n)).map .list
  | n + 1, .ref i => (match M[i]? with
    | some (.lst ds) => (ds.mapM (toP M n)).map .list
    | _ => none)
  | _, _ => none
def eqG : G2 := fun x y M => match x, y with
  | .int a, .int b => some (.ok (.bl (a == b)) M)
  | .str a, .str b => some (.ok (.bl (a == b)) M)
  | x, y => match toP M 9 x, toP M 9 y with
    | some d, some e => some (.ok (.bl (PyData.eqv d e)) M)
    | _, _ => none
def neG : G2 := fun x y M => match x, y with
  | .int a, .int b => some (.ok (.bl (!(a == b))) M)
  | .str a, .str b => some (.ok (.bl (!(a == b))) M)
  | x, y => match toP M 9 x, toP M 9 y with
    | some d, some e => some (.ok (.bl (!PyData.eqv d e)) M)
    | _, _ => none
def D.isNon : D → Bool
  | .non => true
  | _ => false
def isN (f : EF) : EF := fun r M => bnd (f r M) fun d M1 => some (.ok (.bl d.isNon) M1)
def isNN (f : EF) : EF := fun r M => bnd (f r M) fun d M1 => some (.ok (.bl (!d.isNon)) M1)
/-- len -/
def lenD : D → Hd → Option (Rs D) := fun x M => match x with
  | .str y => if y.length ≤ 16777216 then some (.ok (.int y.length) M) else none
  | .tup ds => some (.ok (.int ds.length) M)
  | .fl ds => some (.ok (.int ds.length) M)
  | .ref i => match M[i]? with
    | some (.lst ds) => some (.ok (.int ds.length) M)
    | _ => none
  | _ => none
/-- the items of a list or tuple -/
def itemsD (x : D) (M : Hd) : Option (List D) := match x with
  | .tup ds => some ds
  | .fl ds => some ds
  | .ref i => match M[i]? with
    | some (.lst ds) => some ds
    | _ => none
  | _ => none
/-- x[i] of a list, a tuple, a text -/
def ixG : G2 := fun x y M => match y with
  | .int i => (match x with
    | .tup ds => pr M (atI ds i)
    | .fl ds => pr M (atI ds i)
    | .ref p => (match M[p]? with
      | some (.lst ds) => pr M (atI ds i)
      | _ => none)
    | .str z => if z.length ≤ 16777216 then pr M ((atI z.cps.toList i).map fun c => .str ⟨#[c]⟩) else none
    | _ => none)
  | _ => none

/-- types -/
inductive Ty where
  | non | bl | int | str | tup | lst | dct
  deriving DecidableEq
def Ty.nm : Ty → String
  | .non => "NoneType" | .bl => "bool" | .int => "int" | .str => "str" | .tup => "tuple" | .lst => "list" | .dct => "dict"
def Ty.sub : Ty → Ty → Bool
  | .bl, .int => true
  | .non, .non => true | .bl, .bl => true | .int, .int => true | .str, .str => true | .tup, .tup => true | .lst, .lst => true | .dct, .dct => true
  | _, _ => false
def tyD (d : D) (M : Hd) : Option Ty := match d with
  | .non => some .non
  | .bl _ => some .bl
  | .int _ => some .int
  | .str _ => some .str
  | .tup _ => some .tup
  | .fl _ => some .lst
  | .ref i => match M[i]? with
    | some (.lst _) => some .lst
    | some (.dic _) => some .dct
    | _ => none
def isiG (T : Ty) : D → Hd → Option (Rs D) := fun d M => match tyD d M with
  | some t => some (.ok (.bl (t.sub T)) M)
  | none => none
/-- list(x), tuple(x) -/
def listG : D → Hd → Option (Rs D) := fun d M => match itemsD d M with
  | some ds => some (.ok (.ref M.length) (M ++ [.lst ds]))
  | none => none
def tupleG : D → Hd → Option (Rs D) := fun d M => match d with
  | .tup ds => some (.ok (.tup ds) M)
  | .fl ds => some (.ok (.tup ds) M)
  | .ref i => (match M[i]? with
    | some (.lst ds) => some (.ok (.tup ds) M)
    | _ => none)
  | _ => none
def max2 : List D → Hd → Option (Rs D) := fun ds M => match ds with
  | [.int i, .int j] => some (.ok (.int (if j > i then j else i)) M)
  | _ => none
def min2 : List D → Hd → Option (Rs D) := fun ds M => match ds with
  | [.int i, .int j] => some (.ok (.int (if j < i then j else i)) M)
  | _ => none
/-- x.m(..) of a list -/
def eLm (g : Nat → List D → List D → Hd → Option (Rs D)) (fo : EF) (fa : AF) : EF := fun r M => bnd (fo r M) fun x M1 => match x with
  | .ref i => (match M1[i]? with
    | some (.lst _) => bnd (fa r M1) fun as M2 => (match M2[i]? with
      | some (.lst ds) => g i ds as M2
      | _ => none)
    | _ => none)
  | _ => none
def appendG (i : Nat) (ds as : List D) (M : Hd) : Option (Rs D) := match as with
  | [y] => if ds.length < 16777216 then some (.ok .non (M.set i (.lst (ds ++ [y])))) else none
  | _ => none
def popG (i : Nat) (ds as : List D) (M : Hd) : Option (Rs D) := match as, ds[ds.length - 1]? with
  | [], some y => some (.ok y (M.set i (.lst ds.dropLast)))
  | _, _ => none
def extendG (i : Nat) (ds as : List D) (M : Hd) : Option (Rs D) := match as with
  | [.ref j] => (match M[j]? with
    | some (.lst es) => if ds.length + es.length ≤ 16777216 then some (.ok .non (M.set i (.lst (ds ++ es)))) else none
    | _ => none)
  | _ => none
/-- slices -/
abbrev OF := Ev → Hd → Option (Rs (Option Int))
def oNone : OF := fun _ M => some (.ok none M)
def oSome (f : EF) : OF := fun r M => bnd (f r M) fun d M1 => match d with
  | .int i => some (.ok (some i) M1)
  | _ => none
def cutD {α : Type} (xs : List α) (lo hi : Option Int) : List α := (xs.drop (HT.sIx xs.length 0 lo)).take (HT.sIx xs.length xs.length hi - HT.sIx xs.length 0 lo)
def sliceD (d : D) (lo hi : Option Int) (M : Hd) : Option (Rs D) := match d with
  | .tup ds => some (.ok (.tup (cutD ds lo hi)) M)
  | .fl ds => some (.ok (.ref M.length) (M ++ [.lst (cutD ds lo hi)]))
  | .ref i => (match M[i]? with
    | some (.lst ds) => some (.ok (.ref M.length) (M ++ [.lst (cutD ds lo hi)]))
    | _ => none)
  | _ => none
def eSl (f : EF) (lo hi : OF) : EF := fun r M => bnd (f r M) fun d M1 => bnd (lo r M1) fun l M2 => bnd (hi r M2) fun h M3 => sliceD d l h M3
/-- x[::-1] -/
def revG : D → Hd → Option (Rs D) := fun d M => match d with
  | .fl ds => some (.ok (.ref M.length) (M ++ [.lst ds.reverse]))
  | .ref i => (match M[i]? with
    | some (.lst ds) => some (.ok (.ref M.length) (M ++ [.lst ds.reverse]))
    | _ => none)
  | _ => none
def eCB (g : List D → Hd → Option (Rs D)) (fa : AF) : EF := fun r M => bnd (fa r M) fun ds M1 => g ds M1

/-! ### statements -/
def sNil : SF := fun r M => some (.nx r, M)
def sSeq (f g : SF) : SF := fun r M => match f r M with
  | some (.nx r1, M1) => g r1 M1
  | o => o
def sAsg (i : Nat) (f : EF) : SF := fun r M => exB (f r M) r fun d M1 => some (.nx (r.set i (some d)), M1)
def sPar (i j : Nat) (f g : EF) : SF := fun r M => exB (f r M) r fun d M1 => exB (g r M1) r fun e M2 => some (.nx ((r.set i (some d)).set j (some e)), M2)
def sAug (g : G2) (i : Nat) (f : EF) : SF := fun r M => match r[i]? with
  | some (some d) => exB (f r M) r fun e M1 => exB (g d e M1) r fun z M2 => some (.nx (r.set i (some z)), M2)
  | _ => none
def sDrop (f : EF) : SF := fun r M => exB (f r M) r fun _ M1 => some (.nx r, M1)
def sRet (f : EF) : SF := fun r M => exB (f r M) r fun d M1 => some (.rt d, M1)
def sRetN : SF := fun _ M => some (.rt .non, M)
def sIf (t : TF) (f g : SF) : SF := fun r M => exB (t r M) r fun b M1 => if b = true then f r M1 else g r M1
def sBreak : SF := fun r M => some (.bk r, M)
def sCont : SF := fun r M => some (.ct r, M)
def sRaise (c : Str) : SF := fun r M => some (.xx c r, M)

/-- o[i] = e (e first) -/
def sSetI (f fo fi : EF) : SF := fun r M => exB (f r M) r fun d M1 => exB (fo r M1) r fun o M2 => exB (fi r M2) r fun i M3 => match o, i with
  | .ref p, .int j => (match M3[p]? with
    | some (.lst ds) => (match ixN ds.length j with
      | some n => some (.nx r, M3.set p (.lst (ds.set n d)))
      | none => none)
    | _ => none)
  | _, _ => none

/-! ### targets -/
inductive Tg where
  | nm (i : Nat) | tp (l : List Nat)
def setAll : List Nat → List D → Ev → Option Ev
  | [], [], r => some r
  | i :: is, d :: ds, r => setAll is ds (r.set i (some d))
  | _, _, _ => none
def Tg.put (t : Tg) (d : D) (r : Ev) : Option Ev := match t with
  | .nm i => some (r.set i (some d))
  | .tp l => match d with
    | .tup ds => setAll l ds r
    | _ => none
def Tg.sl : Tg → List Nat
  | .nm i => [i]
  | .tp l => l
def sAsgT (l : List Nat) (f : EF) : SF := fun r M => exB (f r M) r fun d M1 => match (Tg.tp l).put d r with
  | some r1 => some (.nx r1, M1)
  | none => none

/-! ### loops -/
abbrev Gd := List (Nat × List D)
/-- the lists that are walked stand as they stood -/
def Still (gs : Gd) (M : Hd) : Prop := ∀ p ∈ gs, M[p.1]? = some (.lst p.2)
@[simp] theorem still_nil (M : Hd) : Still [] M ↔ True := ⟨fun _ => trivial, fun _ _ h => nomatch h⟩
@[simp] theorem still_one (p : Nat × List D) (gs : Gd) (M : Hd) : Still (p :: gs) M ↔ (M[p.1]? = some (.lst p.2) ∧ Still gs M) := by
  unfold Still
  simp only [List.forall_mem_cons]
abbrev IF := Ev → Hd → Option (Rs (List D × Gd))
open Classical in
noncomputable def forL (gs : Gd) (t : Tg) (g : SF) : List D → SF
  | [], r, M => if Still gs M then some (.nx r, M) else none
  | d :: ds, r, M => if Still gs M then (match t.put d r with
    | none => none
    | some r1 => match g r1 M with
      | some (.nx r2, M2) => forL gs t g ds r2 M2
      | some (.ct r2, M2) => forL gs t g ds r2 M2
      | some (.bk r2, M2) => some (.nx r2, M2)
      | o => o) else none
noncomputable def sFor (f : IF) (t : Tg) (g : SF) : SF := fun r M => exB (f r M) r fun p M1 => forL p.2 t g p.1 r M1
/-- items of a list or tuple, for a loop -/
def seqI (f : EF) : IF := fun r M => bnd (f r M) fun d M1 => match d with
  | .tup ds => some (.ok (ds, []) M1)
  | .fl ds => some (.ok (ds, []) M1)
  | .ref i => (match M1[i]? with
    | some (.lst ds) => some (.ok (ds, [(i, ds)]) M1)
    | _ => none)
  | _ => none
def intsD (lo : Int) (n : Nat) : List D := (List.range n).map fun (i : Nat) => D.int (lo + (i : Int))
def Sm (i : Int) : Prop := -(2 ^ 62) ≤ i ∧ i < 2 ^ 62
noncomputable instance (i : Int) : Decidable (Sm i) := Classical.propDecidable _
noncomputable def rng1 (f : EF) : IF := fun r M => bnd (f r M) fun d M1 => match d with
  | .int n => if Sm n then some (.ok (intsD 0 n.toNat, []) M1) else none
  | _ => none
noncomputable def rng2 (f g : EF) : IF := fun r M => bnd (f r M) fun d M1 => bnd (g r M1) fun e M2 => match d, e with
  | .int a, .int n => if Sm a ∧ Sm n then some (.ok (intsD a (n - a).toNat, []) M2) else none
  | _, _ => none
/-- while: n turns at most -/
def wIter (t : TF) (g : SF) : Nat → SF
  | 0, _, _ => none
  | n + 1, r, M => exB (t r M) r fun b M1 => if b = true then (match g r M1 with
    | some (.nx r2, M2) => wIter t g n r2 M2
    | some (.ct r2, M2) => wIter t g n r2 M2
    | some (.bk r2, M2) => some (.nx r2, M2)
    | o => o) else some (.nx r, M1)
open Classical in
noncomputable def sWhile (t : TF) (g : SF) : SF := fun r M => if h : ∃ n, (wIter t g n r M).isSome then wIter t g h.choose r M else none
theorem wIter_mono {t : TF} {g : SF} : ∀ {n k : Nat} {r : Ev} {M : Hd} {o : Fl × Hd}, n ≤ k → wIter t g n r M = some o → wIter t g k r M = some o
  | 0, _, _, _, _, _, h => nomatch h
  | n + 1, 0, _, _, _, hk, _ => absurd hk (Nat.not_succ_le_zero n)
  | n + 1, k + 1, r, M, o, hk, h => by
    unfold wIter at h ⊢
    cases e : t r M with
    | none => rw [e] at h; exact nomatch h
    | some x =>
      cases x with
      | er c M1 => rw [e] at h; exact h
      | ok b M1 =>
        rw [e] at h
        cases b with
        | false => exact h
        | true =>
          simp only [exB_ok, if_true] at h ⊢
          cases e2 : g r M1 with
          | none => rw [e2] at h; exact nomatch h
          | some p =>
            obtain ⟨f, M2⟩ := p
            rw [e2] at h
            cases f with
            | nx r2 => exact wIter_mono (Nat.le_of_succ_le_succ hk) h
            | ct r2 => exact wIter_mono (Nat.le_of_succ_le_succ hk) h
            | bk r2 => exact h
            | rt d => exact h
            | xx c r2 => exact h
theorem sWhile_of {t : TF} {g : SF} {n : Nat} {r : Ev} {M : Hd} {o : Fl × Hd} (h : wIter t g n r M = some o) : sWhile t g r M = some o := by
  have he : ∃ n, (wIter t g n r M).isSome := ⟨n, by rw [h]; rfl⟩
  unfold sWhile
  rw [dif_pos he]
  obtain ⟨o', h'⟩ := Option.isSome_iff_exists.mp he.choose_spec
  rw [h']
  rcases Nat.le_total n he.choose with hl | hl
  · rw [wIter_mono hl h] at h'; exact h'.symm
  · rw [wIter_mono hl h'] at h; exact h
theorem of_sWhile {t : TF} {g : SF} {r : Ev} {M : Hd} {o : Fl × Hd} (h : sWhile t g r M = some o) : ∃ n, wIter t g n r M = some o := by
  unfold sWhile at h
  split at h
  · rename_i he
    exact ⟨_, h⟩
  · cases h
/-- a while by a word and a measure -/
theorem while_rule {t : TF} {g : SF} {Q : Fl × Hd → Prop} (P : Nat → Ev → Hd → Prop)
    (hs : ∀ n r M, P n r M → (∃ M1, t r M = some (.ok false M1) ∧ Q (.nx r, M1)) ∨ (∃ M1 o, t r M = some (.ok true M1) ∧ g r M1 = some o ∧
      match o with
      | (.nx r2, M2) => ∃ k, k < n ∧ P k r2 M2
      | (.ct r2, M2) => ∃ k, k < n ∧ P k r2 M2
      | (.bk r2, M2) => Q (.nx r2, M2)
      | o => Q o)) : ∀ n r M, P n r M → ∃ o, sWhile t g r M = some o ∧ Q o := by
  have key : ∀ n, ∀ k, k ≤ n → ∀ r M, P k r M → ∃ o, wIter t g (n + 1) r M = some o ∧ Q o := by
    intro n
    induction n with
    | zero =>
      intro k hk r M hp
      obtain rfl : k = 0 := by omega
      rcases hs 0 r M hp with ⟨M1, e, q⟩ | ⟨M1, o, e, e2, q⟩
      · exact ⟨_, by unfold wIter; rw [e]; rfl, q⟩
      · unfold wIter
        rw [e]
        simp only [exB_ok, if_true]
        rw [e2]
        obtain ⟨f, M2⟩ := o
        cases f with
        | nx r2 => obtain ⟨k, hk, _⟩ := q; omega
        | ct r2 => obtain ⟨k, hk, _⟩ := q; omega
        | bk r2 => exact ⟨_, rfl, q⟩
        | rt d => exact ⟨_, rfl, q⟩
        | xx c r2 => exact ⟨_, rfl, q⟩
    | succ n ih =>
      intro k hk r M hp
      rcases hs k r M hp with ⟨M1, e, q⟩ | ⟨M1, o, e, e2, q⟩
      · exact ⟨_, by unfold wIter; rw [e]; rfl, q⟩
      · unfold wIter
        rw [e]
        simp only [exB_ok, if_true]
        rw [e2]
        obtain ⟨f, M2⟩ := o
        cases f with
        | nx r2 => obtain ⟨j, hj, p⟩ := q; exact ih j (by omega) r2 M2 p
        | ct r2 => obtain ⟨j, hj, p⟩ := q; exact ih j (by omega) r2 M2 p
        | bk r2 => exact ⟨_, rfl, q⟩
        | rt d => exact ⟨_, rfl, q⟩
        | xx c r2 => exact ⟨_, rfl, q⟩
  intro n r M hp
  obtain ⟨o, h, q⟩ := key n n (Nat.le_refl _) r M hp
  exact ⟨o, sWhile_of h, q⟩

/-! ### comprehensions -/
/-- the slots of the block's own names forgotten -/
def wip (r : Ev) : List Nat → Ev
  | [] => r
  | v :: vs => (wip r vs).set v none
open Classical in
noncomputable def lcL (gs : Gd) (n : Nat) (t : Tg) (c : TF) (f : EF) (r : Ev) : List D → Hd → Option Hd
  | [], M => if Still gs M then some M else none
  | d :: ds, M => if Still gs M then (match t.put d r with
    | none => none
    | some r1 => match c r1 M with
      | some (.ok true M1) => (match f r1 M1 with
        | some (.ok x M2) => (match M2[n]? with
          | some (.lst acc) => if acc.length < 16777216 then lcL gs n t c f r ds (M2.set n (.lst (acc ++ [x]))) else none
          | _ => none)
        | _ => none)
      | some (.ok false M1) => lcL gs n t c f r ds M1
      | _ => none) else none
noncomputable def eLc (it : IF) (t : Tg) (c : TF) (f : EF) (own : List Nat) : EF := fun r M => bnd (it r M) fun p M1 => match lcL p.2 M1.length t c f (wip r own) p.1 (M1 ++ [.lst []]) with
  | some M2 => some (.ok (.ref M1.length) M2)
  | none => none
def tYes : TF := fun _ M => some (.ok true M)

/-! ### a def -/
def startD (n : Nat) (ds : List D) : Ev := ds.map some ++ List.replicate (n - ds.length) none
/-- n names, k parameters -/
def mir (n k : Nat) (g : SF) : List D → Hd → Option (Rs D) := fun ds M => if ds.length = k then (match g (startD n ds) M with
  | some (.rt d, M1) => some (.ok d M1)
  | some (.nx _, M1) => some (.ok .non M1)
  | some (.xx c _, M1) => some (.er c M1)
  | _ => none) else none
end DI

end

section
set_option Elab.async false
set_option linter.all false
set_option maxRecDepth 100000
set_option maxHeartbeats 4000000
/-! DI2: expressions and statements do what DI1 says. -/
namespace DI
open PySem PySem.Spec PyProof.Rows L2

/-! ### tuples that the program made are known whole -/
def tO (us : List Value) : Obj := { cls := .type "tuple", data := .seq us.toArray }
def StT (K : PySem.W.Frag) (H : Hp) (a : Addr) (vs : List V) : Prop :=
  (∃ o, H a = some (.frz o (.tup vs)) ∧ o.cls = .type "tuple" ∧ o.dict = none) ∨
    ∃ (o : Obj) (its : Array Value) (n : Nat), K.lookup a = some o ∧ o.cls = .type "tuple" ∧ o.dict = none ∧ o.data = .seq its n ∧ its.size ≤ sizeLine ∧ Vals vs its.toList
theorem StT.sq {K : PySem.W.Frag} {H : Hp} {a : Addr} {vs : List V} (h : StT K H a vs) : SqT K H a vs := by
  rcases h with ⟨o, h, _⟩ | ⟨o, its, n, h1, h2, _, h3⟩
  · exact .inl (.inr ⟨o, h⟩)
  · exact .inr ⟨o, its, n, h1, h2, h3⟩
theorem StT.made {K : PySem.W.Frag} {H : Hp} {a : Addr} {vs : List V} {us : List Value} : StT K (upd H a (.frz (tO us) (.tup vs))) a vs := .inl ⟨_, upd_same, rfl, rfl⟩
section
variable {X : Cx} {es : List Expr} {t : TA} {pos : Pos}
/-- a fresh tuple -/
def NewT (vs : List V) (H : Hp) (Q : VK) : Prop := ∀ (a : Addr) (us : List Value), H a = none → Q (.ref a) (upd H a (.frz (tO us) (.tup vs)))
theorem newT_ok {h : Heap} {H' : Hp} {vs : List V} {us : List Value} (hz : vs.length ≤ sizeLine) (hv : Vals vs us) : ObjOk X.prog X.w H' (h.push (tO us)) h.objs.size (.frz (tO us) (.tup vs)) :=
  ⟨Heap.get?_push_size _ rfl, hz, us, hv, _, Heap.get?_push_size _ rfl, rfl, _, rfl⟩
def tTupF (t : TA) : TE := fun σ H Q => t σ H fun vs H1 => vs.length ≤ sizeLine ∧ NewT vs H1 Q
theorem pe_tupF {x1 : Nat} (h : PA X es t) : PE X (.Tuple es x1 pos) (tTupF t) := by
  refine ⟨fun pins s σ H Q I hq => ?_⟩
  refine wpAny_Tuple_spliced (thn (h.run pos pins s σ H _ I hq) ?_)
  rintro us s1 ⟨vs, H1, J, rv, hz, q⟩
  refine ⟨by rw [← rv.length]; exact hz, ?_⟩
  have J1 := J.laid (t' := s1.toks) (o := .frz (tO us) (.tup vs)) (fun c u e => Heap.get?_push_of_some (tO us) e) (Nat.le_refl _) (newT_ok hz rv)
  exact ⟨.ref s1.heap.objs.size, _, J1, rfl, q _ us (J.hok.fresh (Nat.le_refl _))⟩
def rCatF (K : PySem.W.Frag) : R2 := fun x y H Q => ∃ a b vs ws, x = .ref a ∧ y = .ref b ∧ SqT K H a vs ∧ SqT K H b ws ∧ vs.length + ws.length ≤ sizeLine ∧
  (vs = [] → Q (.ref b) H) ∧ (vs ≠ [] → ws = [] → Q (.ref a) H) ∧ (vs ≠ [] → ws ≠ [] → NewT (vs ++ ws) H Q)
theorem op_catF : OpR X (binaryOp .Add) (rCatF X.K) := by
  intro pins s σ H x y v u Q J rx ry h
  obtain ⟨a, b, vs, ws, rfl, rfl, ha, hb, hz, q0, q1, q2⟩ := h
  by_cases hv : vs = []
  · exact op_catA pins s σ H _ _ v u Q J rx ry ⟨a, b, vs, ws, rfl, rfl, ha, hb, hz, q0, q1, fun n => absurd hv n⟩
  · cases rx
    cases ry
    obtain ⟨us, r1, p1, _⟩ := J.tuple ha
    obtain ⟨us2, r2, p2, _⟩ := J.tuple hb
    refine HT.cat_tup p1 p2 (fun n => hv (r1.nil_iff.mp n)) (fun n => ⟨.ref a, H, J, rfl, q1 hv (r2.nil_iff.mp n)⟩) (fun n => ?_) (by rw [← r1.length, ← r2.length]; exact hz)
    have J1 := J.laid (t' := s.toks) (o := .frz (tO (us ++ us2)) (.tup (vs ++ ws))) (fun c u e => Heap.get?_push_of_some (tO (us ++ us2)) e) (Nat.le_refl _) (newT_ok (by rw [List.length_append]; exact hz) (r1.append r2))
    refine ⟨.ref s.heap.objs.size, _, ?_, rfl, q2 hv (fun e => n (r2.nil_iff.mpr e)) _ (us ++ us2) (J.hok.fresh (Nat.le_refl _))⟩
    have e : (us ++ us2).toArray = us.toArray ++ us2.toArray := by simp
    unfold tO at J1
    rw [e] at J1
    unfold tO
    rw [e]
    exact J1
def rSlF (K : PySem.W.Frag) : V → Option Int → Option Int → Hp → VK → Prop := fun x lo hi H Q => ∃ a vs, x = .ref a ∧ SqT K H a vs ∧
  (HT.sIx vs.length 0 lo = 0 ∧ HT.sIx vs.length vs.length hi = vs.length → Q (.ref a) H) ∧ (¬ (HT.sIx vs.length 0 lo = 0 ∧ HT.sIx vs.length vs.length hi = vs.length) → NewT (cutV vs lo hi) H Q)
theorem sl_tupF : SlR X (rSlF X.K) := by
  intro pins s σ H x v vl vu lo hi sl Q J rx hs pl pu h
  obtain ⟨a, vs, rfl, hx, q1, q2⟩ := h
  by_cases hw : HT.sIx vs.length 0 lo = 0 ∧ HT.sIx vs.length vs.length hi = vs.length
  · exact sl_tupA pins s σ H _ v vl vu lo hi sl Q J rx hs pl pu ⟨a, vs, rfl, hx, q1, fun n => absurd hw n⟩
  · cases rx
    obtain ⟨us, rv, ht, hz⟩ := J.tuple hx
    have hl : us.toArray.size = vs.length := by rw [List.size_toArray]; exact rv.length.symm
    refine ⟨"tuple", _, PyProof.Rows.slot_tuple_getitem.lookup, ht.typeIs, ?_⟩
    refine HT.getItem_tuple_cut ht hs pl pu (by rw [hl]; exact hw) ?_ (by rw [hl]; exact hz)
    rw [hl]
    have J1 := J.laid (t' := s.toks) (o := .frz (tO _) (.tup (cutV vs lo hi))) (fun c u e => Heap.get?_push_of_some (tO _) e) (Nat.le_refl _) (newT_ok (Nat.le_trans (cutV_length vs lo hi) hz) ((rv.drop (HT.sIx vs.length 0 lo)).take (HT.sIx vs.length vs.length hi - HT.sIx vs.length 0 lo)))
    exact ⟨.ref s.heap.objs.size, _, J1, rfl, q2 hw _ _ (J.hok.fresh (Nat.le_refl _))⟩
theorem call_tupleF : CallR X (.type "tuple") (fun xs H Q => ∃ a vs, xs = [.ref a] ∧ ((SqL X.K H a vs ∧ NewT vs H Q) ∨ (SqT X.K H a vs ∧ Q (.ref a) H))) := by
  intro pins s σ H xs us Q J r h
  obtain ⟨a, vs, rfl, h | ⟨hq, q⟩⟩ := h
  · obtain ⟨hq, q⟩ := h
    obtain ⟨u, rfl, rx⟩ := vals1 r
    cases rx
    obtain ⟨us, rv, pl, hz⟩ := J.list hq
    refine call_tuple_list pl.isList (fun h' kp => ?_) (by have := rv.length; simp only [List.size_toArray] <;> omega)
    have J1 : Inv X pins σ H { s with heap := h' } := J.kept (t' := s.toks) kp
    have J2 := J1.laid (t' := s.toks) (o := .frz (tO us) (.tup vs)) (fun c u e => Heap.get?_push_of_some (tO us) e) (Nat.le_refl _) (newT_ok hz rv)
    exact ⟨.ref h'.objs.size, _, J2, rfl, q _ us (J1.hok.fresh (Nat.le_refl _))⟩
  · exact call_tuple_of pins s σ H [.ref a] us Q J r ⟨a, vs, rfl, .inr ⟨hq, q⟩⟩
end

/-! ### dicts whose keys are tuples of ints -/
abbrev DX := List Int × Addr × Value
def kH (ks : List Int) : Int := reduceHash (Builtin.Tuple.tupleHashOf (ks.map hashInt))
def entX (x : DX) : DictEntry := ⟨kH x.1, .ref x.2.1, x.2.2⟩
/-- the entries as they stand in the object -/
def dctO (a : Addr) (xs : List DX) : HO := .ext fun h => ∃ o es ep, h.get? a = some o ∧ o.ExactDict ∧ o.data = .dict es ep ∧ es.toList = xs.map entX ∧ (xs.map (·.1)).Nodup
/-! ### data and values -/
mutual
def Rep (K : PySem.W.Frag) (p : List Addr) (H : Hp) : D → V → Prop
  | .non, v => v = .non
  | .bl b, v => v = .bl b
  | .int i, v => v = .int i
  | .str x, v => v = .str x
  | .tup ds, v => ∃ a vs, v = .ref a ∧ StT K H a vs ∧ Reps K p H ds vs
  | .fl ds, v => ∃ a vs, v = .ref a ∧ ((∃ o, H a = some (.frz o (.lst vs))) ∨ ∀ H', SqL K H' a vs) ∧ Reps K p H ds vs
  | .ref i, v => ∃ a, p[i]? = some a ∧ v = .ref a
def Reps (K : PySem.W.Frag) (p : List Addr) (H : Hp) : List D → List V → Prop
  | [], vs => vs = []
  | d :: ds, vs => ∃ v ws, vs = v :: ws ∧ Rep K p H d v ∧ Reps K p H ds ws
end
/-- tuples and frozen things stay -/
structure Le (H H' : Hp) : Prop where
  t : ∀ a vs, H a = some (.tup vs) → H' a = some (.tup vs)
  f : ∀ a o u, H a = some (.frz o u) → H' a = some (.frz o u)
theorem Le.refl (H : Hp) : Le H H := ⟨fun _ _ h => h, fun _ _ _ h => h⟩
theorem Le.trans {A B C : Hp} (h : Le A B) (k : Le B C) : Le A C := ⟨fun a v q => k.t a v (h.t a v q), fun a o u q => k.f a o u (h.f a o u q)⟩
theorem Le.new {H : Hp} {a : Addr} {o : HO} (h : H a = none) : Le H (upd H a o) :=
  ⟨fun b v q => by rw [upd_ne (ne_of_none q h)]; exact q, fun b v u q => by rw [upd_ne (ne_of_none q h)]; exact q⟩
theorem Le.stT {K : PySem.W.Frag} {H H' : Hp} (h : Le H H') {a : Addr} {vs : List V} (q : StT K H a vs) : StT K H' a vs := by
  rcases q with ⟨o, q, c⟩ | q
  · exact .inl ⟨o, h.f _ _ _ q, c⟩
  · exact .inr q
theorem Le.sqT {K : PySem.W.Frag} {H H' : Hp} (h : Le H H') {a : Addr} {vs : List V} (q : SqT K H a vs) : SqT K H' a vs := by
  rcases q with (q | ⟨o, q⟩) | q
  · exact .inl (.inl (h.t _ _ q))
  · exact .inl (.inr ⟨o, h.f _ _ _ q⟩)
  · exact .inr q
mutual
theorem Rep.up {K : PySem.W.Frag} {p p' : List Addr} {H H' : Hp} (hp : p <+: p') (hl : Le H H') : ∀ (d : D) {v : V}, Rep K p H d v → Rep K p' H' d v
  | .non, _, h => by unfold Rep at h ⊢; exact h
  | .bl _, _, h => by unfold Rep at h ⊢; exact h
  | .int _, _, h => by unfold Rep at h ⊢; exact h
  | .str _, _, h => by unfold Rep at h ⊢; exact h
  | .tup ds, v, h => by
    unfold Rep at h ⊢
    obtain ⟨a, vs, e, q, r⟩ := h
    exact ⟨a, vs, e, hl.stT q, Reps.up hp hl ds r⟩
  | .fl ds, v, h => by
    unfold Rep at h ⊢
    obtain ⟨a, vs, e, q, r⟩ := h
    refine ⟨a, vs, e, ?_, Reps.up hp hl ds r⟩
    rcases q with ⟨o, q⟩ | q
    · exact .inl ⟨o, hl.f _ _ _ q⟩
    · exact .inr q
  | .ref i, v, h => by
    unfold Rep at h ⊢
    obtain ⟨a, e, q⟩ := h
    obtain ⟨t, rfl⟩ := hp
    refine ⟨a, ?_, q⟩
    rw [List.getElem?_append_left (List.getElem?_eq_some_iff.mp e).1]
    exact e
theorem Reps.up {K : PySem.W.Frag} {p p' : List Addr} {H H' : Hp} (hp : p <+: p') (hl : Le H H') : ∀ (ds : List D) {vs : List V}, Reps K p H ds vs → Reps K p' H' ds vs
  | [], _, h => by unfold Reps at h ⊢; exact h
  | d :: ds, _, h => by
    unfold Reps at h ⊢
    obtain ⟨v, ws, e, r, q⟩ := h
    exact ⟨v, ws, e, Rep.up hp hl d r, Reps.up hp hl ds q⟩
end
theorem reps_nil {K : PySem.W.Frag} {p : List Addr} {H : Hp} : Reps K p H [] [] := by unfold Reps; rfl
theorem reps_cons {K : PySem.W.Frag} {p : List Addr} {H : Hp} {d : D} {ds : List D} {v : V} {vs : List V} (h : Rep K p H d v) (k : Reps K p H ds vs) : Reps K p H (d :: ds) (v :: vs) := by
  unfold Reps; exact ⟨v, vs, rfl, h, k⟩
theorem reps_len {K : PySem.W.Frag} {p : List Addr} {H : Hp} : ∀ {ds : List D} {vs : List V}, Reps K p H ds vs → ds.length = vs.length
  | [], _, h => by unfold Reps at h; subst h; rfl
  | d :: ds, _, h => by
    unfold Reps at h
    obtain ⟨v, ws, e, _, q⟩ := h
    rw [e, List.length_cons, List.length_cons, reps_len q]
theorem reps_get {K : PySem.W.Frag} {p : List Addr} {H : Hp} : ∀ {ds : List D} {vs : List V} {i : Nat} {d : D}, Reps K p H ds vs → ds[i]? = some d → ∃ v, vs[i]? = some v ∧ Rep K p H d v
  | [], _, _, _, _, e => by simp at e
  | x :: ds, _, 0, d, h, e => by
    unfold Reps at h
    obtain ⟨v, ws, rfl, r, _⟩ := h
    simp at e
    subst e
    exact ⟨v, rfl, r⟩
  | x :: ds, _, i + 1, d, h, e => by
    unfold Reps at h
    obtain ⟨v, ws, rfl, _, q⟩ := h
    simpa using reps_get (i := i) (d := d) q (by simpa using e)
theorem reps_app {K : PySem.W.Frag} {p : List Addr} {H : Hp} : ∀ {ds es : List D} {vs ws : List V}, Reps K p H ds vs → Reps K p H es ws → Reps K p H (ds ++ es) (vs ++ ws)
  | [], _, _, _, h, k => by unfold Reps at h; rw [h]; exact k
  | d :: ds, _, _, _, h, k => by
    unfold Reps at h
    obtain ⟨v, us, rfl, r, q⟩ := h
    exact reps_cons r (reps_app q k)
theorem reps_set {K : PySem.W.Frag} {p : List Addr} {H : Hp} {d : D} {v : V} (r : Rep K p H d v) : ∀ {ds : List D} {vs : List V} (i : Nat), Reps K p H ds vs → Reps K p H (ds.set i d) (vs.set i v)
  | [], _, _, h => by unfold Reps at h; rw [h]; exact reps_nil
  | x :: ds, _, 0, h => by
    unfold Reps at h
    obtain ⟨u, us, rfl, _, q⟩ := h
    exact reps_cons r q
  | x :: ds, _, i + 1, h => by
    unfold Reps at h
    obtain ⟨u, us, rfl, s, q⟩ := h
    exact reps_cons s (reps_set r i q)
theorem reps_drop {K : PySem.W.Frag} {p : List Addr} {H : Hp} : ∀ {ds : List D} {vs : List V} (n : Nat), Reps K p H ds vs → Reps K p H (ds.drop n) (vs.drop n)
  | _, _, 0, h => h
  | [], _, n + 1, h => by unfold Reps at h; rw [h]; exact reps_nil
  | d :: ds, _, n + 1, h => by
    unfold Reps at h
    obtain ⟨u, us, rfl, _, q⟩ := h
    exact reps_drop n q
theorem reps_take {K : PySem.W.Frag} {p : List Addr} {H : Hp} : ∀ {ds : List D} {vs : List V} (n : Nat), Reps K p H ds vs → Reps K p H (ds.take n) (vs.take n)
  | _, _, 0, h => reps_nil
  | [], _, n + 1, h => by unfold Reps at h; rw [h]; exact reps_nil
  | d :: ds, _, n + 1, h => by
    unfold Reps at h
    obtain ⟨u, us, rfl, r, q⟩ := h
    exact reps_cons r (reps_take n q)

/-! ### the heap -/
def OR (K : PySem.W.Frag) (mg : Str → Option Value) (p : List Addr) (H : Hp) (a : Addr) : O → Prop
  | .lst ds => ∃ vs, H a = some (.lst vs) ∧ Reps K p H ds vs
  | .dic kvs => ∃ ws : List (Key × V), H a = some (.dK ws) ∧ Paired (fun (x : Str × D) (y : Key × V) => y.1 = Sum.inr x.1 ∧ Rep K p H x.2 y.2) kvs ws
  | .dct kvs => ∃ xs : List DX, H a = some (dctO a xs) ∧ (a == sysModules) = false ∧ Paired (fun (x : List Int × D) (y : DX) => y.1 = x.1 ∧ StT K H y.2.1 (x.1.map V.int) ∧ ∃ v, RelV v y.2.2 ∧ Rep K p H x.2 v) kvs xs
  | .ins c fs => ∃ C dx ws, mg c = some (.ref C) ∧ H a = some (.ins C dx ws) ∧ Paired (fun (x : Str × D) (y : Str × V) => y.1 = x.1 ∧ Rep K p H x.2 y.2) fs ws
structure Rl (K : PySem.W.Frag) (mg : Str → Option Value) (p : List Addr) (M : Hd) (H : Hp) : Prop where
  len : p.length = M.length
  nd : p.Nodup
  ob : ∀ (i : Nat) (o : O), M[i]? = some o → ∃ a, p[i]? = some a ∧ OR K mg p H a o
theorem paired_mono {α β : Type} {F G : α → β → Prop} (h : ∀ x y, F x y → G x y) : ∀ {l : List α} {m : List β}, Paired F l m → Paired G l m
  | _, _, .nil => .nil
  | _, _, .cons r t => .cons (h _ _ r) (paired_mono h t)
theorem OR.up {K : PySem.W.Frag} {mg : Str → Option Value} {p p' : List Addr} {H H' : Hp} {a : Addr} {o : O} (hp : p <+: p') (hl : Le H H') (he : H' a = H a) (h : OR K mg p H a o) : OR K mg p' H' a o := by
  cases o with
  | lst ds => obtain ⟨vs, e, r⟩ := h; exact ⟨vs, he.trans e, Reps.up hp hl ds r⟩
  | dic kvs => obtain ⟨ws, e, r⟩ := h; exact ⟨ws, he.trans e, paired_mono (fun x y q => ⟨q.1, Rep.up hp hl _ q.2⟩) r⟩
  | dct kvs => obtain ⟨xs, e, n, r⟩ := h; exact ⟨xs, he.trans e, n, paired_mono (fun x y q => ⟨q.1, hl.stT q.2.1, let ⟨v, v1, v2⟩ := q.2.2; ⟨v, v1, Rep.up hp hl _ v2⟩⟩) r⟩
  | ins c fs => obtain ⟨C, dx, ws, m, e, r⟩ := h; exact ⟨C, dx, ws, m, he.trans e, paired_mono (fun x y q => ⟨q.1, Rep.up hp hl _ q.2⟩) r⟩
theorem OR.some {K : PySem.W.Frag} {mg : Str → Option Value} {p : List Addr} {H : Hp} {a : Addr} {o : O} (h : OR K mg p H a o) : ∃ u, H a = some u ∧ (∀ vs, u ≠ .tup vs) ∧ (∀ o' w, u ≠ .frz o' w) := by
  cases o with
  | lst ds => obtain ⟨vs, e, r⟩ := h; exact ⟨_, e, (fun _ z => nomatch z), fun _ _ z => nomatch z⟩
  | dic kvs => obtain ⟨ws, e, r⟩ := h; exact ⟨_, e, (fun _ z => nomatch z), fun _ _ z => nomatch z⟩
  | dct kvs => obtain ⟨ws, e, r⟩ := h; exact ⟨_, e, (fun _ z => nomatch z), fun _ _ z => nomatch z⟩
  | ins c fs => obtain ⟨C, dx, ws, m, e, r⟩ := h; exact ⟨_, e, (fun _ z => nomatch z), fun _ _ z => nomatch z⟩
section
variable {K : PySem.W.Frag} {mg : Str → Option Value} {p : List Addr} {M : Hd} {H : Hp}
/-- an address of the data heap is tracked -/
theorem Rl.there (R : Rl K mg p M H) {i : Nat} {a : Addr} (h : p[i]? = some a) : ∃ o, M[i]? = some o ∧ OR K mg p H a o := by
  have hi : i < M.length := by rw [← R.len]; exact (List.getElem?_eq_some_iff.mp h).1
  obtain ⟨b, hb, q⟩ := R.ob i M[i] (List.getElem?_eq_getElem hi)
  rw [h] at hb
  cases hb
  exact ⟨_, List.getElem?_eq_getElem hi, q⟩
theorem Rl.ne (R : Rl K mg p M H) {i j : Nat} {a b : Addr} (ha : p[i]? = some a) (hb : p[j]? = some b) (h : i ≠ j) : a ≠ b := by
  intro e
  subst e
  obtain ⟨hi, ei⟩ := List.getElem?_eq_some_iff.mp ha
  obtain ⟨hj, ej⟩ := List.getElem?_eq_some_iff.mp hb
  exact h ((List.getElem_inj R.nd).mp (ei.trans ej.symm))
/-- something that the data heap does not know is laid -/
theorem Rl.other (R : Rl K mg p M H) {a : Addr} {u : HO} (h : H a = none) : Rl K mg p M (upd H a u) := by
  refine ⟨R.len, R.nd, fun i o e => ?_⟩
  obtain ⟨b, hb, q⟩ := R.ob i o e
  obtain ⟨w, hw, _⟩ := q.some
  exact ⟨b, hb, q.up (List.prefix_refl p) (Le.new h) (upd_ne (ne_of_none hw h))⟩
/-- a new thing -/
theorem Rl.new (R : Rl K mg p M H) {a : Addr} {u : HO} {o : O} (h : H a = none) (ho : OR K mg (p ++ [a]) (upd H a u) a o) : Rl K mg (p ++ [a]) (M ++ [o]) (upd H a u) := by
  have hna : a ∉ p := fun hm => by
    obtain ⟨i, hi, e⟩ := List.mem_iff_getElem.mp hm
    obtain ⟨o', _, q⟩ := R.there (i := i) (a := a) (by rw [List.getElem?_eq_getElem hi, e])
    obtain ⟨w, hw, _⟩ := q.some
    rw [h] at hw
    cases hw
  refine ⟨by rw [List.length_append, List.length_append, R.len] <;> rfl, ?_, fun i o' e => ?_⟩
  · rw [List.nodup_append]
    refine ⟨R.nd, by simp, fun x hx y hy e => ?_⟩
    have : y = a := by simpa using hy
    subst this
    subst e
    exact hna hx
  · by_cases hi : i < M.length
    · rw [List.getElem?_append_left hi] at e
      obtain ⟨b, hb, q⟩ := R.ob i o' e
      obtain ⟨w, hw, _⟩ := q.some
      refine ⟨b, ?_, q.up (List.prefix_append p [a]) (Le.new h) (upd_ne (ne_of_none hw h))⟩
      rw [List.getElem?_append_left (by rw [R.len]; exact hi)]
      exact hb
    · rw [List.getElem?_append_right (by omega)] at e
      have hi0 : i - M.length = 0 := by
        have := (List.getElem?_eq_some_iff.mp e).1
        simp at this
        omega
      rw [hi0] at e
      have e' : o = o' := by simpa using e
      subst e'
      refine ⟨a, ?_, ho⟩
      rw [List.getElem?_append_right (by rw [R.len]; omega), R.len, hi0]
      rfl
/-- a thing is changed -/
theorem Rl.put (R : Rl K mg p M H) {i : Nat} {a : Addr} {u : HO} {o : O} (ha : p[i]? = some a) (ho : Le H (upd H a u) → OR K mg p (upd H a u) a o) : Rl K mg p (M.set i o) (upd H a u) ∧ Le H (upd H a u) := by
  obtain ⟨o0, e0, q0⟩ := R.there ha
  obtain ⟨w, hw, n1, n2⟩ := q0.some
  have hl : Le H (upd H a u) := by
    refine ⟨fun b vs q => ?_, fun b o' w' q => ?_⟩
    · have : b ≠ a := fun e => by subst e; rw [hw] at q; exact n1 vs (Option.some.inj q)
      rw [upd_ne this]; exact q
    · have : b ≠ a := fun e => by subst e; rw [hw] at q; exact n2 o' w' (Option.some.inj q)
      rw [upd_ne this]; exact q
  refine ⟨⟨by rw [List.length_set]; exact R.len, R.nd, fun j o' e => ?_⟩, hl⟩
  by_cases hj : j = i
  · subst hj
    rw [List.getElem?_set_self (List.getElem?_eq_some_iff.mp e0).1] at e
    cases e
    exact ⟨a, ha, ho hl⟩
  · rw [List.getElem?_set_ne (Ne.symm hj)] at e
    obtain ⟨b, hb, q⟩ := R.ob j o' e
    exact ⟨b, hb, q.up (List.prefix_refl p) hl (upd_ne (R.ne hb ha hj))⟩
end
/-- slots; z: the exception that is held, and its name's slot -/
abbrev Zx := Option (Addr × Nat)
structure Sl (K : PySem.W.Frag) (z : Zx) (p : List Addr) (H : Hp) (r : Ev) (σ : L2.St) : Prop where
  len : r.length = σ.length
  at_ : ∀ (i : Nat) (d : D), r[i]? = some (some d) → ∃ v, σ[i]? = some (some v) ∧ Rep K p H d v
  ex : ∀ a i, z = some (a, i) → r[i]? = some none → σ[i]? = some (some (.ref a))
section
variable {K : PySem.W.Frag} {z : Zx} {p p' : List Addr} {H H' : Hp} {r : Ev} {σ : L2.St} {d : D} {v : V}
theorem Sl.up (hp : p <+: p') (hl : Le H H') (s : Sl K z p H r σ) : Sl K z p' H' r σ :=
  ⟨s.len, fun i d e => by
    obtain ⟨v, e', q⟩ := s.at_ i d e
    exact ⟨v, e', Rep.up hp hl d q⟩, s.ex⟩
theorem Sl.set (s : Sl K z p H r σ) (i : Nat) (q : Rep K p H d v) : Sl K z p H (r.set i (some d)) (σ.set i (some v)) := by
  refine ⟨by rw [List.length_set, List.length_set]; exact s.len, fun j e h => ?_, fun a j hz h => ?_⟩
  · by_cases hj : i = j
    · subst hj
      have hi : i < r.length := by
        have := (List.getElem?_eq_some_iff.mp h).1
        rw [List.length_set] at this
        exact this
      rw [List.getElem?_set_self hi] at h
      cases h
      exact ⟨v, by rw [List.getElem?_set_self (by rw [← s.len]; exact hi)], q⟩
    · rw [List.getElem?_set_ne hj] at h
      obtain ⟨u, e', q'⟩ := s.at_ j e h
      exact ⟨u, by rw [List.getElem?_set_ne hj]; exact e', q'⟩
  · by_cases hj : i = j
    · subst hj
      have hi : i < r.length := by
        have := (List.getElem?_eq_some_iff.mp h).1
        rw [List.length_set] at this
        exact this
      rw [List.getElem?_set_self hi] at h
      cases h
    · rw [List.getElem?_set_ne hj] at h ⊢
      exact s.ex a j hz h
theorem Sl.del (s : Sl K none p H r σ) (i : Nat) (x : Option V) : Sl K none p H (r.set i none) (σ.set i x) := by
  refine ⟨by rw [List.length_set, List.length_set]; exact s.len, fun j e h => ?_, fun a j hz h => nomatch hz⟩
  by_cases hj : i = j
  · subst hj
    have hi : i < r.length := by
      have := (List.getElem?_eq_some_iff.mp h).1
      rw [List.length_set] at this
      exact this
    rw [List.getElem?_set_self hi] at h
    cases h
  · rw [List.getElem?_set_ne hj] at h
    obtain ⟨u, e', q'⟩ := s.at_ j e h
    exact ⟨u, by rw [List.getElem?_set_ne hj]; exact e', q'⟩
end

/-! ### the judgements -/
/-- what stands still of the context -/
structure Kx where
  K : PySem.W.Frag
  mg : Str → Option Value
  z : Zx
/-- what is wanted of an outcome -/
def PoE (k : Kx) (W : WX) {α β : Type} (Re : List Addr → Hp → α → β → Prop) (p : List Addr) (H : Hp) (σ : L2.St) (o : Rs α) (Q : β → Hp → Prop) : Prop := match o with
  | .ok d M' => ∀ p' H' v, p <+: p' → Le H H' → Rl k.K k.mg p' M' H' → Re p' H' d v → Q v H'
  | .er c M' => ∀ p' H' C, p <+: p' → Le H H' → Rl k.K k.mg p' M' H' → k.mg c = some (.ref C) → W (.ref C) none σ H'
def gE (k : Kx) (W : WX) {α β : Type} (Re : List Addr → Hp → α → β → Prop) (f : Ev → Hd → Option (Rs α)) : L2.St → Hp → (β → Hp → Prop) → Prop := fun σ H Q =>
  ∃ p M r o, Rl k.K k.mg p M H ∧ Sl k.K k.z p H r σ ∧ f r M = some o ∧ PoE k W Re p H σ o Q
abbrev rD (k : Kx) : List Addr → Hp → D → V → Prop := Rep k.K
abbrev rB : List Addr → Hp → Bool → Bool → Prop := fun _ _ b c => c = b
abbrev rA (k : Kx) : List Addr → Hp → List D → List V → Prop := Reps k.K
abbrev Cx.k (X : Cx) (z : Zx) : Kx := ⟨X.K, X.mg, z⟩
def DE (X : Cx) (z : Zx) (W : WX) (e : Expr) (f : EF) : Prop := PE X e (gE (Cx.k X z) W (rD (Cx.k X z)) f)
def DT (X : Cx) (z : Zx) (W : WX) (e : Expr) (f : TF) : Prop := PT X e (gE (Cx.k X z) W rB f)
def DW (X : Cx) (z : Zx) (W : WX) (e : Expr) (f : TF) : Prop := PW X e (gE (Cx.k X z) W rB f)
def DA (X : Cx) (z : Zx) (W : WX) (es : List Expr) (f : AF) : Prop := PA X es (gE (Cx.k X z) W (rA (Cx.k X z)) f)
theorem _root_.L2.PE.imp {X : Cx} {e : Expr} {t u : TE} (h : PE X e t) (q : ∀ σ H Q, u σ H Q → t σ H Q) : PE X e u := ⟨fun pins s σ H Q I k => h.run pins s σ H Q I (q σ H Q k)⟩
theorem _root_.L2.PT.imp {X : Cx} {e : Expr} {t u : TT} (h : PT X e t) (q : ∀ σ H Q, u σ H Q → t σ H Q) : PT X e u := ⟨fun pins s σ H Q I k => h.run pins s σ H Q I (q σ H Q k)⟩
theorem _root_.L2.PW.imp {X : Cx} {e : Expr} {t u : TT} (h : PW X e t) (q : ∀ σ H Q, u σ H Q → t σ H Q) : PW X e u := ⟨fun wh pins s σ H Q I k => h.run wh pins s σ H Q I (q σ H Q k)⟩
theorem _root_.L2.PA.imp {X : Cx} {e : List Expr} {t u : TA} (h : PA X e t) (q : ∀ σ H Q, u σ H Q → t σ H Q) : PA X e u := ⟨fun pos pins s σ H Q I k => h.run pos pins s σ H Q I (q σ H Q k)⟩
theorem _root_.L2.PS.imp {X : Cx} {e : Stmt} {t u : TS} (h : PS X e t) (q : ∀ D σ H, u D σ H → t D σ H) : PS X e u := ⟨fun pins s σ H Q I k => h.run pins s σ H Q I (q _ σ H k)⟩
theorem _root_.L2.PSs.imp {X : Cx} {e : List Stmt} {t u : TS} (h : PSs X e t) (q : ∀ D σ H, u D σ H → t D σ H) : PSs X e u := ⟨fun pins s σ H Q I k => h.run pins s σ H Q I (q _ σ H k)⟩

section
variable {k : Kx} {W : WX} {α β γ δ : Type} {Re : List Addr → Hp → α → β → Prop} {Rf : List Addr → Hp → γ → δ → Prop}
/-- first f, then what g says -/
theorem gE_bnd {f : Ev → Hd → Option (Rs α)} {g : α → Hd → Option (Rs γ)} {r : Ev} {M : Hd} {p : List Addr} {σ : L2.St} {H : Hp} {o : Rs γ} {Q : δ → Hp → Prop} {S : β → Hp → Prop} (R : Rl k.K k.mg p M H) (L : Sl k.K k.z p H r σ)
    (e : bnd (f r M) g = some o) (po : PoE k W Rf p H σ o Q)
    (h : ∀ d M1 p1 H1 v, Rl k.K k.mg p1 M1 H1 → Sl k.K k.z p1 H1 r σ → Le H H1 → p <+: p1 → Re p1 H1 d v → g d M1 = some o → PoE k W Rf p1 H1 σ o Q → S v H1) : gE k W Re f σ H S := by
  cases ef : f r M with
  | none => rw [ef] at e; exact nomatch e
  | some x =>
    refine ⟨p, M, r, x, R, L, ef, ?_⟩
    rw [ef] at e
    cases x with
    | er c M1 =>
      cases e
      exact po
    | ok d M1 =>
      intro p1 H1 v hp hl R1 q
      refine h d M1 p1 H1 v R1 (L.up hp hl) hl hp q e ?_
      cases o with
      | ok d2 M2 => exact fun p2 H2 v2 hp2 hl2 R2 q2 => po p2 H2 v2 (hp.trans hp2) (hl.trans hl2) R2 q2
      | er c M2 => exact fun p2 H2 C hp2 hl2 R2 q2 => po p2 H2 C (hp.trans hp2) (hl.trans hl2) R2 q2
/-- the outcome as it stands -/
theorem PoE.ok {p : List Addr} {H : Hp} {σ : L2.St} {d : γ} {M : Hd} {Q : δ → Hp → Prop} (po : PoE k W Rf p H σ (.ok d M) Q) {v : δ} (R : Rl k.K k.mg p M H) (q : Rf p H d v) : Q v H := po p H v (List.prefix_refl p) (Le.refl H) R q
end

section
variable {X : Cx} {z : Zx} {W : WX} {a b c : Expr} {fa fb fc : EF} {pos : Pos}
/-! ### names, constants -/
theorem de_var (i : Nat) {x : Str} (hN : X.N[i]? = some x := by rfl) (hv : Vis X.env.scope x := by first | exact Or.inl rfl | exact Or.inr (Or.inl rfl) | exact Or.inr (Or.inr rfl)) (hd : (x == ("__debug__" : Str)) = false := by decide) (hcd : (x == ("__classdict__" : Str)) = false := by decide) :
    DE X z W (.Name x pos) (eVar i) := by
  refine (pe_var (i := i) hN hv hd hcd).imp ?_
  rintro σ H Q ⟨p, M, r, o, R, L, e, po⟩
  unfold eVar at e
  split at e
  · rename_i d hd'
    cases e
    obtain ⟨v, hv', q⟩ := L.at_ i d hd'
    exact ⟨v, hv', po.ok R q⟩
  · cases e
theorem gE_c {k : Kx} {d : D} {v : V} (h : ∀ p H, Rep k.K p H d v) {σ : L2.St} {H : Hp} {Q : VK} (g : gE k W (rD k) (eC d) σ H Q) : tC v σ H Q := by
  obtain ⟨p, M, r, o, R, L, e, po⟩ := g
  cases e
  exact po.ok R (h p H)
theorem de_int {i : Int} {j : Nat} : DE X z W (.Constant (.int i) j pos) (eC (.int i)) := pe_int.imp fun _ _ _ => gE_c fun _ _ => by unfold Rep; rfl
theorem de_bl {i : Bool} {j : Nat} : DE X z W (.Constant (.bool i) j pos) (eC (.bl i)) := pe_bl.imp fun _ _ _ => gE_c fun _ _ => by unfold Rep; rfl
theorem de_non {j : Nat} : DE X z W (.Constant .none j pos) (eC .non) := pe_non.imp fun _ _ _ => gE_c fun _ _ => by unfold Rep; rfl
theorem de_str {x : Str} {j : Nat} : DE X z W (.Constant (.str x) j pos) (eC (.str x)) := pe_str.imp fun _ _ _ => gE_c fun _ _ => by unfold Rep; rfl
/-- a constant of the module -/
theorem de_glob {x : Str} {v : V} {u : Value} {d : D} (hg : Gl X x) (hm : X.mg x = some u) (r : RelV v u) (h : ∀ p H, Rep X.K p H d v) (hd : (x == ("__debug__" : Str)) = false := by decide) : DE X z W (.Name x pos) (eC d) :=
  (pe_glob hg hm r hd).imp fun _ _ _ => gE_c h

/-- an int of the module -/
theorem de_gi {x : Str} {i : Int} (h : ∃ u, X.mg x = some u ∧ RelV (.int i) u) (hg : Gl X x := by rfl) (hd : (x == ("__debug__" : Str)) = false := by decide) : DE X z W (.Name x pos) (eC (.int i)) := by
  obtain ⟨u, h1, h2⟩ := h
  exact de_glob hg h1 h2 (fun _ _ => by unfold Rep; rfl) hd

/-! ### operators -/
/-- an operator by values does what g says of data -/
def OD (k : Kx) (r : R2) (g : G2) : Prop := ∀ {p M H x y v u o Q} (W : WX) (σ : L2.St), Rl k.K k.mg p M H → Rep k.K p H x v → Rep k.K p H y u → g x y M = some o → PoE k W (rD k) p H σ o Q → r v u H Q
def OU (k : Kx) (r : V → Hp → VK → Prop) (g : D → Hd → Option (Rs D)) : Prop := ∀ {p M H x v o Q} (W : WX) (σ : L2.St), Rl k.K k.mg p M H → Rep k.K p H x v → g x M = some o → PoE k W (rD k) p H σ o Q → r v H Q
theorem gE_op {k : Kx} {r : R2} {g : G2} (h : OD k r g) {σ : L2.St} {H : Hp} {Q : VK} (q : gE k W (rD k) (eOp g fa fb) σ H Q) : tOp r (gE k W (rD k) fa) (gE k W (rD k) fb) σ H Q := by
  obtain ⟨p, M, ρ, o, R, L, e, po⟩ := q
  refine gE_bnd R L e po fun d M1 p1 H1 v R1 L1 hl1 hp1 q1 e1 po1 => ?_
  refine gE_bnd R1 L1 e1 po1 fun d2 M2 p2 H2 u R2 L2 hl2 hp2 q2 e2 po2 => ?_
  exact h W σ R2 (Rep.up hp2 hl2 _ q1) q2 e2 po2
theorem de_op {op : Operator} {r : R2} {g : G2} (ho : OpR X (binaryOp op) r) (h : OD (Cx.k X z) r g) (ha : DE X z W a fa) (hb : DE X z W b fb) : DE X z W (.BinOp a op b pos) (eOp g fa fb) :=
  (pe_op ho ha hb).imp fun _ _ _ q => gE_op h q
theorem de_un {op : UnaryOp} {r : V → Hp → VK → Prop} {g : D → Hd → Option (Rs D)} (ho : UnR X (unaryOp op) r) (h : OU (Cx.k X z) r g) (ha : DE X z W a fa) : DE X z W (.UnaryOp op a pos) (eUn g fa) := by
  refine (pe_un ho ha).imp ?_
  rintro σ H Q ⟨p, M, ρ, o, R, L, e, po⟩
  exact gE_bnd R L e po fun d M1 p1 H1 v R1 L1 hl1 hp1 q1 e1 po1 => h W σ R1 q1 e1 po1
theorem de_cmp {op : CmpOp} {r : R2} {g : G2} (ho : OpR X (compareOp op) r) (h : OD (Cx.k X z) r g) (ha : DE X z W a fa) (hb : DE X z W b fb) (hm : behindInMarks op b = false := by first | exact nomark _ | rfl) : DE X z W (.Compare a [op] [b] pos) (eOp g fa fb) :=
  (pe_cmpR ho ha hb hm).imp fun _ _ _ q => gE_op h q
/-- a test whose answer is a bool -/
theorem gE_bOf {k : Kx} {f : EF} {σ : L2.St} {H : Hp} {Q : Bool → Hp → Prop} (q : gE k W rB (tVal f) σ H Q) : gE k W (rD k) f σ H fun x H' => ∃ c, x = .bl c ∧ Q c H' := by
  obtain ⟨p, M, ρ, o, R, L, e, po⟩ := q
  refine gE_bnd R L e po fun d M1 p1 H1 v R1 L1 hl1 hp1 q1 e1 po1 => ?_
  cases d with
  | bl b =>
    cases e1
    unfold Rep at q1
    exact ⟨b, q1, po1.ok R1 rfl⟩
  | _ => cases e1
theorem dt_cmp {op : CmpOp} {r : R2} {g : G2} (ho : OpR X (compareOp op) r) (h : OD (Cx.k X z) r g) (ha : DE X z W a fa) (hb : DE X z W b fb) (hm : behindInMarks op b = false := by first | exact nomark _ | rfl) : DT X z W (.Compare a [op] [b] pos) (tVal (eOp g fa fb)) := by
  refine (pt_cmpR ho ha hb hm).imp fun σ H Q q => ?_
  have q2 := gE_bOf q
  exact gE_op (Q := fun x H' => ∃ c, x = .bl c ∧ Q c H') h q2

/-! ### what stands behind data -/
theorem rep_tup {K : PySem.W.Frag} {p : List Addr} {H : Hp} {a : Addr} {ds : List D} {vs : List V} (h : StT K H a vs) (q : Reps K p H ds vs) : Rep K p H (.tup ds) (.ref a) := by
  unfold Rep; exact ⟨a, vs, rfl, h, q⟩
theorem rep_ref {K : PySem.W.Frag} {p : List Addr} {H : Hp} {a : Addr} {i : Nat} (h : p[i]? = some a) : Rep K p H (.ref i) (.ref a) := by
  unfold Rep; exact ⟨a, h, rfl⟩
theorem rep_int {K : PySem.W.Frag} {p : List Addr} {H : Hp} {i : Int} : Rep K p H (.int i) (.int i) := by unfold Rep; rfl
theorem rep_bl {K : PySem.W.Frag} {p : List Addr} {H : Hp} {i : Bool} : Rep K p H (.bl i) (.bl i) := by unfold Rep; rfl
theorem rep_str {K : PySem.W.Frag} {p : List Addr} {H : Hp} {i : Str} : Rep K p H (.str i) (.str i) := by unfold Rep; rfl
theorem rep_non {K : PySem.W.Frag} {p : List Addr} {H : Hp} : Rep K p H .non .non := by unfold Rep; rfl
theorem rep_lst {K : PySem.W.Frag} {mg : Str → Option Value} {p : List Addr} {M : Hd} {H : Hp} {i : Nat} {v : V} {ds : List D} (R : Rl K mg p M H) (h : Rep K p H (.ref i) v) (e : M[i]? = some (.lst ds)) :
    ∃ a vs, v = .ref a ∧ p[i]? = some a ∧ H a = some (.lst vs) ∧ Reps K p H ds vs := by
  unfold Rep at h
  obtain ⟨a, ha, rfl⟩ := h
  obtain ⟨b, hb, vs, e1, e2⟩ := R.ob i _ e
  rw [ha] at hb
  cases hb
  exact ⟨a, vs, rfl, ha, e1, e2⟩
theorem rep_items {K : PySem.W.Frag} {mg : Str → Option Value} {p : List Addr} {M : Hd} {H : Hp} {x : D} {v : V} {ds : List D} (R : Rl K mg p M H) (h : Rep K p H x v) (e : itemsD x M = some ds) :
    ∃ a vs, v = .ref a ∧ (SqL K H a vs ∨ SqT K H a vs) ∧ Reps K p H ds vs := by
  cases x with
  | tup es =>
    cases e
    unfold Rep at h
    obtain ⟨a, vs, e1, e2, e3⟩ := h
    exact ⟨a, vs, e1, .inr e2.sq, e3⟩
  | fl es =>
    cases e
    unfold Rep at h
    obtain ⟨a, vs, e1, e2, e3⟩ := h
    refine ⟨a, vs, e1, .inl ?_, e3⟩
    rcases e2 with ⟨o, e2⟩ | e2
    · exact .inl (.inr ⟨o, e2⟩)
    · exact e2 H
  | ref i =>
    unfold itemsD at e
    dsimp only at e
    split at e
    · rename_i es ho
      cases e
      obtain ⟨a, vs, e1, _, e2, e3⟩ := rep_lst R h ho
      exact ⟨a, vs, e1, .inl (SqL.of e2), e3⟩
    · cases e
  | _ => cases e
theorem reps_atI {K : PySem.W.Frag} {p : List Addr} {H : Hp} {ds : List D} {vs : List V} {i : Int} {d : D} (h : Reps K p H ds vs) (e : atI ds i = some d) : ∃ v, atI vs i = some v ∧ Rep K p H d v := by
  unfold atI at e ⊢
  rw [← reps_len h]
  cases q : ixN ds.length i with
  | none => rw [q] at e; cases e
  | some j =>
    rw [q] at e
    exact reps_get h e
theorem line_eq {n : Nat} (h : n ≤ 16777216) : n ≤ sizeLine := by rw [sizeLine_eq]; exact h
theorem line_lt {n : Nat} (h : n < 16777216) : n < sizeLine := by rw [sizeLine_eq]; exact h
section
variable {k : Kx} {p : List Addr} {M : Hd} {H : Hp} {σ : L2.St} {Q : VK} {ds : List D} {vs : List V}
theorem po_tup (R : Rl k.K k.mg p M H) (po : PoE k W (rD k) p H σ (.ok (.tup ds) M) Q) (h : Reps k.K p H ds vs) : NewT vs H Q := fun a us ha =>
  po p _ _ (List.prefix_refl p) (Le.new ha) (R.other ha) (rep_tup StT.made (Reps.up (List.prefix_refl p) (Le.new ha) _ h))
theorem po_lst (R : Rl k.K k.mg p M H) (po : PoE k W (rD k) p H σ (.ok (.ref M.length) (M ++ [.lst ds])) Q) (h : Reps k.K p H ds vs) : ∀ a, H a = none → Q (.ref a) (upd H a (.lst vs)) := fun a ha =>
  po (p ++ [a]) _ _ (List.prefix_append p [a]) (Le.new ha) (R.new ha ⟨vs, upd_same, Reps.up (List.prefix_append p [a]) (Le.new ha) _ h⟩) (rep_ref (by rw [List.getElem?_append_right (by rw [R.len]; omega), R.len]; simp))
end

/-! ### arithmetic -/
section
variable {k : Kx}
def rAddD (K : PySem.W.Frag) : R2 := fun x y H Q => rI0 (fun i j => V.int (i + j)) x y H Q ∨ ((∃ i j, x = .str i ∧ y = .str j ∧ i.length + j.length ≤ sizeLine ∧ Q (.str (i ++ j)) H) ∨ (rCatF K x y H Q ∨ rCat x y H Q))
theorem op_addD : OpR X (binaryOp .Add) (rAddD X.K) := op_add.or (op_add_str.or (op_catF.or op_cat))
theorem od_add : OD k (rAddD k.K) addG := by
  intro p M H x y v u o Q W σ R q1 q2 e po
  cases x with
  | int a =>
    cases y with
    | int b =>
      cases e
      unfold Rep at q1 q2
      exact .inl ⟨a, b, q1, q2, po.ok R rep_int⟩
    | _ => cases e
  | str a =>
    cases y with
    | str b =>
      unfold addG at e
      simp only at e
      split at e
      · rename_i hl
        cases e
        unfold Rep at q1 q2
        exact .inr (.inl ⟨a, b, q1, q2, line_eq hl, po.ok R rep_str⟩)
      · cases e
    | _ => cases e
  | tup a =>
    cases y with
    | tup b =>
      unfold addG at e
      simp only at e
      split at e
      · rename_i hl
        cases e
        unfold Rep at q1 q2
        obtain ⟨l1, vs, rfl, s1, r1⟩ := q1
        obtain ⟨l2, ws, rfl, s2, r2⟩ := q2
        have e1 := reps_len r1
        have e2 := reps_len r2
        refine .inr (.inr (.inl ⟨l1, l2, vs, ws, rfl, rfl, s1.sq, s2.sq, line_eq (by omega), fun h => ?_, fun h1 h2 => ?_, fun h1 h2 => ?_⟩))
        · subst h
          have : a = [] := by cases a with | nil => rfl | cons _ _ => simp at e1
          subst this
          exact po.ok R (rep_tup s2 r2)
        · subst h2
          have : b = [] := by cases b with | nil => rfl | cons _ _ => simp at e2
          subst this
          rw [List.append_nil] at po
          exact po.ok R (rep_tup s1 r1)
        · exact po_tup R po (reps_app r1 r2)
      · cases e
    | _ => cases e
  | ref i =>
    cases y with
    | ref j =>
      unfold addG at e
      simp only at e
      split at e
      · rename_i a b h1 h2
        split at e
        · rename_i hl
          cases e
          obtain ⟨l1, vs, rfl, _, s1, r1⟩ := rep_lst R q1 h1
          obtain ⟨l2, ws, rfl, _, s2, r2⟩ := rep_lst R q2 h2
          have e1 := reps_len r1
          have e2 := reps_len r2
          exact .inr (.inr (.inr ⟨l1, l2, vs, ws, rfl, rfl, s1, s2, line_eq (by omega), po_lst R po (reps_app r1 r2)⟩))
        · cases e
      · cases e
    | _ => cases e
  | _ => cases y <;> cases e
theorem od_I {C : Int → Int → Prop} {f : Int → Int → Int} {g : G2} (h : ∀ x y M o, g x y M = some o → ∃ a b, x = .int a ∧ y = .int b ∧ C a b ∧ o = .ok (.int (f a b)) M) : OD k (rI C fun i j => .int (f i j)) g := by
  intro p M H x y v u o Q W σ R q1 q2 e po
  obtain ⟨a, b, rfl, rfl, c, rfl⟩ := h x y M o e
  unfold Rep at q1 q2
  exact ⟨a, b, q1, q2, c, po.ok R rep_int⟩
theorem od_B {f : Int → Int → Bool} {g : G2} (h : ∀ x y M o, g x y M = some o → ∃ a b, x = .int a ∧ y = .int b ∧ o = .ok (.bl (f a b)) M) : OD k (rI0 fun i j => .bl (f i j)) g := by
  intro p M H x y v u o Q W σ R q1 q2 e po
  obtain ⟨a, b, rfl, rfl, rfl⟩ := h x y M o e
  unfold Rep at q1 q2
  exact ⟨a, b, q1, q2, po.ok R rep_bl⟩
theorem od_addI : OD k (rI0 fun i j => .int (i + j)) addIG := by
  intro p M H x y v u o Q W σ R q1 q2 e po
  cases x with
  | int a =>
    cases y with
    | int b =>
      cases e
      unfold Rep at q1 q2
      exact ⟨a, b, q1, q2, po.ok R rep_int⟩
    | _ => cases e
  | _ => cases y <;> cases e
theorem od_mulI : OD k (rI CMul fun i j => .int (i * j)) mulIG := od_I fun x y M o e => by
  unfold mulIG at e
  split at e
  · split at e
    · rename_i h
      cases e
      exact ⟨_, _, rfl, rfl, h, rfl⟩
    · cases e
  · cases e
theorem od_sub : OD k (rI0 fun i j => .int (i - j)) subG := by
  intro p M H x y v u o Q W σ R q1 q2 e po
  cases x with
  | int a =>
    cases y with
    | int b =>
      cases e
      unfold Rep at q1 q2
      exact ⟨a, b, q1, q2, po.ok R rep_int⟩
    | _ => cases e
  | _ => cases y <;> cases e
def rMulD : R2 := fun x y H Q => rI CMul (fun i j => V.int (i * j)) x y H Q ∨ rI CMulW (fun i j => V.int (i * j)) x y H Q
theorem op_mulD : OpR X (binaryOp .Mult) rMulD := op_mul.or op_mulW
theorem od_mul : OD k rMulD mulG := by
  intro p M H x y v u o Q W σ R q1 q2 e po
  cases x with
  | int a =>
    cases y with
    | int b =>
      unfold mulG at e
      simp only at e
      split at e
      · rename_i h
        cases e
        unfold Rep at q1 q2
        rcases h with h | h | h
        · exact .inl ⟨a, b, q1, q2, .inl h, po.ok R rep_int⟩
        · exact .inl ⟨a, b, q1, q2, .inr h, po.ok R rep_int⟩
        · exact .inr ⟨a, b, q1, q2, h, po.ok R rep_int⟩
      · cases e
    | _ => cases e
  | _ => cases y <;> cases e
theorem od_div : OD k (rI CDivW fun i j => .int (i / j)) divG := od_I fun x y M o e => by
  unfold divG at e
  split at e
  · split at e
    · rename_i h
      cases e
      exact ⟨_, _, rfl, rfl, h, rfl⟩
    · cases e
  · cases e
theorem od_mod : OD k (rI (fun _ j => 0 < j) fun i j => .int (i % j)) modG := od_I fun x y M o e => by
  unfold modG at e
  split at e
  · split at e
    · rename_i h
      cases e
      exact ⟨_, _, rfl, rfl, h, rfl⟩
    · cases e
  · cases e
theorem od_pow : OD k (rI CPow fun i j => .int (i ^ j.toNat)) powG := od_I fun x y M o e => by
  unfold powG at e
  split at e
  · split at e
    · rename_i h
      cases e
      exact ⟨_, _, rfl, rfl, h, rfl⟩
    · cases e
  · cases e
theorem od_shl : OD k (rI CPow fun i j => .int (i * 2 ^ j.toNat)) shlG := od_I fun x y M o e => by
  unfold shlG at e
  split at e
  · split at e
    · rename_i h
      cases e
      exact ⟨_, _, rfl, rfl, h, rfl⟩
    · cases e
  · cases e
theorem ou_neg : OU k (rU fun i => .int (-i)) negG := by
  intro p M H x v o Q W σ R q e po
  cases x with
  | int a =>
    cases e
    unfold Rep at q
    exact ⟨a, q, po.ok R rep_int⟩
  | _ => cases e
theorem od_lt : OD k (rI0 fun i j => .bl (decide (i < j))) ltG := od_B fun x y M o e => by
  unfold ltG at e
  split at e
  · cases e
    exact ⟨_, _, rfl, rfl, rfl⟩
  · cases e
theorem od_le : OD k (rI0 fun i j => .bl (decide (i ≤ j))) leG := od_B fun x y M o e => by
  unfold leG at e
  split at e
  · cases e
    exact ⟨_, _, rfl, rfl, rfl⟩
  · cases e
theorem od_gt : OD k (rI0 fun i j => .bl (decide (j < i))) gtG := od_B fun x y M o e => by
  unfold gtG at e
  split at e
  · cases e
    exact ⟨_, _, rfl, rfl, rfl⟩
  · cases e
theorem od_ge : OD k (rI0 fun i j => .bl (decide (j ≤ i))) geG := od_B fun x y M o e => by
  unfold geG at e
  split at e
  · cases e
    exact ⟨_, _, rfl, rfl, rfl⟩
  · cases e
end

/-! ### == -/
section
variable {K : PySem.W.Frag} {mg : Str → Option Value} {p : List Addr} {M : Hd} {H : Hp}
theorem toP_ok (R : Rl K mg p M H) : ∀ (n : Nat) (d : D) (v : V) (e : PyData), Rep K p H d v → toP M n d = some e → Dp K H v e ∧ e.plain = true ∧ e.depth ≤ n := by
  intro n
  have all : ∀ (n : Nat) (_ : ∀ (d : D) (v : V) (e : PyData), Rep K p H d v → toP M n d = some e → Dp K H v e ∧ e.plain = true ∧ e.depth ≤ n) (ds : List D) (vs : List V) (es : List PyData), Reps K p H ds vs → ds.mapM (toP M n) = some es →
      DpAll K H vs es ∧ PyData.plainAll es = true ∧ PyData.depthAll es ≤ n := by
    intro n ih ds
    induction ds with
    | nil =>
      intro vs es h e
      unfold Reps at h
      subst h
      simp at e
      subst e
      exact ⟨.nil, rfl, Nat.zero_le _⟩
    | cons d ds ih2 =>
      intro vs es h e
      unfold Reps at h
      obtain ⟨v, ws, rfl, r, q⟩ := h
      rw [List.mapM_cons] at e
      cases e1 : toP M n d with
      | none => rw [e1] at e; cases e
      | some x =>
        cases e2 : ds.mapM (toP M n) with
        | none => rw [e1, e2] at e; cases e
        | some xs =>
          rw [e1, e2] at e
          cases e
          obtain ⟨a1, a2, a3⟩ := ih d v x r e1
          obtain ⟨b1, b2, b3⟩ := ih2 ws xs q e2
          refine ⟨.cons a1 b1, ?_, ?_⟩
          · show (x.plain && PyData.plainAll xs) = true
            rw [a2, b2]
            rfl
          · show max x.depth (PyData.depthAll xs) ≤ n
            omega
  induction n with
  | zero =>
    intro d v e h q
    cases d with
    | non => unfold toP at q; cases q; unfold Rep at h; subst h; exact ⟨.non, rfl, Nat.le_refl _⟩
    | bl b => unfold toP at q; cases q; unfold Rep at h; subst h; exact ⟨.bl _, rfl, Nat.le_refl _⟩
    | int b => unfold toP at q; cases q; unfold Rep at h; subst h; exact ⟨.int _, rfl, Nat.le_refl _⟩
    | str b => unfold toP at q; cases q; unfold Rep at h; subst h; exact ⟨.str _, rfl, Nat.le_refl _⟩
    | _ => unfold toP at q; cases q
  | succ n ih =>
    intro d v e h q
    cases d with
    | non => unfold toP at q; cases q; unfold Rep at h; subst h; exact ⟨.non, rfl, Nat.zero_le _⟩
    | bl b => unfold toP at q; cases q; unfold Rep at h; subst h; exact ⟨.bl _, rfl, Nat.zero_le _⟩
    | int b => unfold toP at q; cases q; unfold Rep at h; subst h; exact ⟨.int _, rfl, Nat.zero_le _⟩
    | str b => unfold toP at q; cases q; unfold Rep at h; subst h; exact ⟨.str _, rfl, Nat.zero_le _⟩
    | tup ds =>
      unfold toP at q
      cases e2 : ds.mapM (toP M n) with
      | none => rw [e2] at q; cases q
      | some xs =>
        rw [e2] at q
        cases q
        unfold Rep at h
        obtain ⟨a, vs, rfl, s, r⟩ := h
        obtain ⟨b1, b2, b3⟩ := all n ih ds vs xs r e2
        exact ⟨.tup s.sq b1, b2, Nat.succ_le_succ b3⟩
    | fl ds =>
      unfold toP at q
      cases e2 : ds.mapM (toP M n) with
      | none => rw [e2] at q; cases q
      | some xs =>
        rw [e2] at q
        cases q
        obtain ⟨a, vs, rfl, s, r⟩ := rep_items (ds := ds) R h rfl
        obtain ⟨b1, b2, b3⟩ := all n ih ds vs xs r e2
        unfold Rep at h
        obtain ⟨a', vs', ea, s', r'⟩ := h
        cases ea
        obtain ⟨b1, b2, b3⟩ := all n ih ds vs' xs r' e2
        refine ⟨.lst ?_ b1, b2, Nat.succ_le_succ b3⟩
        rcases s' with ⟨o, s'⟩ | s'
        · exact .inl (.inr ⟨o, s'⟩)
        · exact s' H
    | ref i =>
      unfold toP at q
      split at q
      · rename_i ds ho
        cases e2 : ds.mapM (toP M n) with
        | none => rw [e2] at q; cases q
        | some xs =>
          rw [e2] at q
          cases q
          obtain ⟨a, vs, rfl, _, s, r⟩ := rep_lst R h ho
          obtain ⟨b1, b2, b3⟩ := all n ih ds vs xs r e2
          exact ⟨.lst (SqL.of s) b1, b2, Nat.succ_le_succ b3⟩
      · cases q
end
def rEqP (K : PySem.W.Frag) : R2 := fun x y H Q => ∃ d e, Dp K H x d ∧ Dp K H y e ∧ d.plain = true ∧ e.plain = true ∧ d.depth ≤ 64 ∧ Q (.bl (PyData.eqv d e)) H
def rNeP (K : PySem.W.Frag) : R2 := fun x y H Q => ∃ d e, Dp K H x d ∧ Dp K H y e ∧ d.plain = true ∧ e.plain = true ∧ d.depth ≤ 64 ∧ Q (.bl (!PyData.eqv d e)) H
theorem op_eqP (hu : X.A.units + 64 < cLine) : OpR X (compareOp .Eq) (rEqP X.K) := by
  intro pins s σ H x y v u Q I rx ry h
  obtain ⟨d, e, hd, he, sd, se, hz, q⟩ := h
  obtain ⟨as, r1⟩ := Dp.reads I d x v hd rx
  obtain ⟨bs, r2⟩ := Dp.reads I e y u he ry
  exact SeqAt.eq_plain r1 r2 sd se (by omega) ⟨.bl _, H, I, rfl, q⟩
theorem op_neP (hu : X.A.units + 64 < cLine) : OpR X (compareOp .NotEq) (rNeP X.K) := by
  intro pins s σ H x y v u Q I rx ry h
  obtain ⟨d, e, hd, he, sd, se, hz, q⟩ := h
  obtain ⟨as, r1⟩ := Dp.reads I d x v hd rx
  obtain ⟨bs, r2⟩ := Dp.reads I e y u he ry
  exact SeqAt.ne_plain r1 r2 sd se (by omega) ⟨.bl _, H, I, rfl, q⟩
theorem od_eq {k : Kx} : OD k (rEqP k.K) eqG := by
  intro p M H x y v u o Q W σ R q1 q2 e po
  have gen : ∀ {d e' : PyData}, toP M 9 x = some d → toP M 9 y = some e' → o = .ok (.bl (PyData.eqv d e')) M → rEqP k.K v u H Q := fun {d e'} h1 h2 ho => by
    subst ho
    obtain ⟨a1, a2, a3⟩ := toP_ok R 9 x v d q1 h1
    obtain ⟨b1, b2, b3⟩ := toP_ok R 9 y u e' q2 h2
    exact ⟨d, e', a1, b1, a2, b2, by omega, po.ok R rep_bl⟩
  unfold eqG at e
  split at e
  · cases e
    exact gen rfl rfl rfl
  · cases e
    exact gen rfl rfl rfl
  · split at e
    · rename_i h1 h2
      cases e
      exact gen h1 h2 rfl
    · cases e
theorem od_ne {k : Kx} : OD k (rNeP k.K) neG := by
  intro p M H x y v u o Q W σ R q1 q2 e po
  have gen : ∀ {d e' : PyData}, toP M 9 x = some d → toP M 9 y = some e' → o = .ok (.bl (!PyData.eqv d e')) M → rNeP k.K v u H Q := fun {d e'} h1 h2 ho => by
    subst ho
    obtain ⟨a1, a2, a3⟩ := toP_ok R 9 x v d q1 h1
    obtain ⟨b1, b2, b3⟩ := toP_ok R 9 y u e' q2 h2
    exact ⟨d, e', a1, b1, a2, b2, by omega, po.ok R rep_bl⟩
  unfold neG at e
  split at e
  · cases e
    exact gen rfl rfl rfl
  · cases e
    exact gen rfl rfl rfl
  · split at e
    · rename_i h1 h2
      cases e
      exact gen h1 h2 rfl
    · cases e
end
end DI

end

section
set_option Elab.async false
set_option linter.all false
set_option maxRecDepth 100000
set_option maxHeartbeats 4000000
/-! DI3: tests, calls, displays, items, statements, loops. -/
namespace DI
open PySem PySem.Spec PyProof.Rows L2

section
variable {X : Cx} {z : Zx} {W : WX} {a b c e : Expr} {fa fb fc f : EF} {t u : TF} {pos : Pos} {rest es : List Expr} {g : AF}
/-! ### tests -/
theorem dt_val (h : DE X z W e f) (he : ∀ whole, isTrue e X.env whole = (do let v ← whole; standAt e.pos; holding [v] (truthy v)) := by intro _; rfl) : DT X z W e (tVal f) :=
  (pt_val h he).imp fun _ _ _ q => gE_bOf q
theorem tru_of {k : Kx} {p : List Addr} {M : Hd} {H : Hp} {σ : L2.St} {Q : Bool → Hp → Prop} {d : D} {v : V} {o : Rs Bool} (R : Rl k.K k.mg p M H) (q : Rep k.K p H d v) (e : truD d M = some o) (po : PoE k W rB p H σ o Q) : ∃ b, TruV k.K v H b ∧ Q b H := by
  have emp : ∀ {ds : List D} {vs : List V}, Reps k.K p H ds vs → (!ds.isEmpty) = !vs.isEmpty := fun {ds vs} h => by
    have := reps_len h
    cases ds <;> cases vs <;> first | rfl | simp at this
  cases d with
  | non => cases e; unfold Rep at q; subst q; exact ⟨false, rfl, po.ok R rfl⟩
  | bl b => cases e; unfold Rep at q; subst q; exact ⟨b, rfl, po.ok R rfl⟩
  | int i => cases e; unfold Rep at q; subst q; exact ⟨_, rfl, po.ok R rfl⟩
  | str x =>
    unfold truD at e
    dsimp only at e
    split at e
    · rename_i hl
      cases e
      unfold Rep at q
      subst q
      exact ⟨_, ⟨line_eq hl, rfl⟩, po.ok R rfl⟩
    · cases e
  | tup ds =>
    cases e
    unfold Rep at q
    obtain ⟨a, vs, rfl, s, r⟩ := q
    exact ⟨_, .inr (.inl ⟨vs, s.sq, rfl⟩), po.ok R (emp r).symm⟩
  | fl ds =>
    cases e
    obtain ⟨a, vs, rfl, s, r⟩ := rep_items (ds := ds) R q rfl
    rcases s with s | s
    · exact ⟨_, .inl ⟨vs, s, rfl⟩, po.ok R (emp r).symm⟩
    · exact ⟨_, .inr (.inl ⟨vs, s, rfl⟩), po.ok R (emp r).symm⟩
  | ref i =>
    unfold truD at e
    dsimp only at e
    split at e
    · rename_i ds ho
      cases e
      obtain ⟨a, vs, rfl, _, s, r⟩ := rep_lst R q ho
      exact ⟨_, .inl ⟨vs, SqL.of s, rfl⟩, po.ok R (emp r).symm⟩
    · cases e
theorem dt_tru (h : DE X z W e f) (he : ∀ whole, isTrue e X.env whole = (do let v ← whole; standAt e.pos; holding [v] (truthy v)) := by intro _; rfl) : DT X z W e (tTru f) := by
  refine (pt_truth h he).imp ?_
  rintro σ H Q ⟨p, M, ρ, o, R, L, e, po⟩
  exact gE_bnd R L e po fun d M1 p1 H1 v R1 L1 hl1 hp1 q1 e1 po1 => tru_of R1 q1 e1 po1
theorem gT_and {k : Kx} {σ : L2.St} {H : Hp} {Q : Bool → Hp → Prop} (q : gE k W rB (DI.tAnd t u) σ H Q) : L2.tAnd (gE k W rB t) (gE k W rB u) σ H Q := by
  obtain ⟨p, M, ρ, o, R, L, e, po⟩ := q
  refine gE_bnd R L e po fun d M1 p1 H1 v R1 L1 hl1 hp1 q1 e1 po1 => ?_
  cases q1
  cases d with
  | true => exact ⟨p1, M1, ρ, o, R1, L1, e1, po1⟩
  | false =>
    cases e1
    exact po1.ok R1 rfl
theorem gT_or {k : Kx} {σ : L2.St} {H : Hp} {Q : Bool → Hp → Prop} (q : gE k W rB (DI.tOr t u) σ H Q) : L2.tOr (gE k W rB t) (gE k W rB u) σ H Q := by
  obtain ⟨p, M, ρ, o, R, L, e, po⟩ := q
  refine gE_bnd R L e po fun d M1 p1 H1 v R1 L1 hl1 hp1 q1 e1 po1 => ?_
  cases q1
  cases d with
  | false => exact ⟨p1, M1, ρ, o, R1, L1, e1, po1⟩
  | true =>
    cases e1
    exact po1.ok R1 rfl
theorem dw_and1 (h : DT X z W a t) : DW X z W (.BoolOp .And [a] pos) t := pw_and1 h
theorem dw_or1 (h : DT X z W a t) : DW X z W (.BoolOp .Or [a] pos) t := pw_or1 h
theorem dw_and (ha : DT X z W a t) (hb : DW X z W (.BoolOp .And (b :: rest) pos) u) : DW X z W (.BoolOp .And (a :: b :: rest) pos) (DI.tAnd t u) := (pw_and ha hb).imp fun _ _ _ q => gT_and q
theorem dw_or (ha : DT X z W a t) (hb : DW X z W (.BoolOp .Or (b :: rest) pos) u) : DW X z W (.BoolOp .Or (a :: b :: rest) pos) (DI.tOr t u) := (pw_or ha hb).imp fun _ _ _ q => gT_or q
theorem dt_w (h : DW X z W e t) : DT X z W e t := PW.pt h
theorem dt_not (h : DT X z W a t) : DT X z W (.UnaryOp .Not a pos) (DI.tNot t) := by
  refine (pt_not h).imp ?_
  rintro σ H Q ⟨p, M, ρ, o, R, L, e, po⟩
  refine gE_bnd R L e po fun d M1 p1 H1 v R1 L1 hl1 hp1 q1 e1 po1 => ?_
  cases q1
  cases e1
  exact po1.ok R1 rfl
/-! ### and, or, not as values -/
theorem de_one {op : BoolOp} (h : DE X z W a fa) (hp : PE X (.BoolOp op [a] pos) (gE (Cx.k X z) W (rD (Cx.k X z)) fa)) : DE X z W (.BoolOp op [a] pos) fa := hp
theorem de_and (ha : DE X z W a fa) (hb : DE X z W (.BoolOp .And (b :: rest) pos) fb) : DE X z W (.BoolOp .And (a :: b :: rest) pos) (eAnd fa fb) := by
  refine (pe_and ha hb).imp ?_
  rintro σ H Q ⟨p, M, ρ, o, R, L, e, po⟩
  refine gE_bnd R L e po fun d M1 p1 H1 v R1 L1 hl1 hp1 q1 e1 po1 => ?_
  cases d with
  | bl i =>
    unfold Rep at q1
    subst q1
    refine ⟨i, rfl, ?_⟩
    cases i with
    | true => exact ⟨p1, M1, ρ, o, R1, L1, e1, po1⟩
    | false =>
      cases e1
      exact po1.ok R1 rep_bl
  | _ => cases e1
theorem de_or (ha : DE X z W a fa) (hb : DE X z W (.BoolOp .Or (b :: rest) pos) fb) : DE X z W (.BoolOp .Or (a :: b :: rest) pos) (eOr fa fb) := by
  refine (pe_or ha hb).imp ?_
  rintro σ H Q ⟨p, M, ρ, o, R, L, e, po⟩
  refine gE_bnd R L e po fun d M1 p1 H1 v R1 L1 hl1 hp1 q1 e1 po1 => ?_
  cases d with
  | bl i =>
    unfold Rep at q1
    subst q1
    refine ⟨i, rfl, ?_⟩
    cases i with
    | false => exact ⟨p1, M1, ρ, o, R1, L1, e1, po1⟩
    | true =>
      cases e1
      exact po1.ok R1 rep_bl
  | _ => cases e1
theorem de_not (ha : DE X z W a fa) : DE X z W (.UnaryOp .Not a pos) (eNot fa) := by
  refine (pe_not ha).imp ?_
  rintro σ H Q ⟨p, M, ρ, o, R, L, e, po⟩
  refine gE_bnd R L e po fun d M1 p1 H1 v R1 L1 hl1 hp1 q1 e1 po1 => ?_
  cases d with
  | bl i =>
    unfold Rep at q1
    subst q1
    cases e1
    exact ⟨i, rfl, po1.ok R1 rep_bl⟩
  | _ => cases e1
theorem de_andE (h : DE X z W a fa) : DE X z W (.BoolOp .And [a] pos) fa := pe_one h
theorem de_orE (h : DE X z W a fa) : DE X z W (.BoolOp .Or [a] pos) fa := pe_one h
theorem de_if (ht : DT X z W c t) (ha : DE X z W a fa) (hb : DE X z W b fb) : DE X z W (.IfExp c a b pos) (eIf t fa fb) := by
  refine (pe_ifExp ht ha hb).imp ?_
  rintro σ H Q ⟨p, M, ρ, o, R, L, e, po⟩
  refine gE_bnd R L e po fun d M1 p1 H1 v R1 L1 hl1 hp1 q1 e1 po1 => ?_
  cases q1
  cases d with
  | true => exact ⟨p1, M1, ρ, o, R1, L1, e1, po1⟩
  | false => exact ⟨p1, M1, ρ, o, R1, L1, e1, po1⟩
theorem gE_chain {k : Kx} {r r' : R2} {g g' : G2} (h : OD k r g) (h' : OD k r' g') {σ : L2.St} {H : Hp} {Q : VK} (q : gE k W (rD k) (eChain g g' fa fb fc) σ H Q) :
    tChain r r' (gE k W (rD k) fa) (gE k W (rD k) fb) (gE k W (rD k) fc) σ H Q := by
  obtain ⟨p, M, ρ, o, R, L, e, po⟩ := q
  refine gE_bnd R L e po fun d M1 p1 H1 v R1 L1 hl1 hp1 q1 e1 po1 => ?_
  refine gE_bnd R1 L1 e1 po1 fun d2 M2 p2 H2 w R2 L2 hl2 hp2 q2 e2 po2 => ?_
  cases eg : g d d2 M2 with
  | none => rw [eg] at e2; exact nomatch e2
  | some x =>
    refine h W σ R2 (Rep.up hp2 hl2 _ q1) q2 eg ?_
    rw [eg] at e2
    cases x with
    | er c M3 =>
      cases e2
      exact po2
    | ok d3 M3 =>
      intro p3 H3 v3 hp3 hl3 R3 q3
      dsimp only [bnd_ok] at e2
      cases d3 with
      | bl i =>
        unfold Rep at q3
        subst q3
        refine ⟨i, rfl, ?_⟩
        have po3 : PoE k W (rD k) p3 H3 σ o Q := by
          cases o with
          | ok d2 M2 => exact fun p2 H2 v2 hp2 hl2 R2 q2 => po2 p2 H2 v2 (hp3.trans hp2) (hl3.trans hl2) R2 q2
          | er c M2 => exact fun p2 H2 C hp2 hl2 R2 q2 => po2 p2 H2 C (hp3.trans hp2) (hl3.trans hl2) R2 q2
        cases i with
        | true =>
          refine gE_bnd R3 (L2.up hp3 hl3) e2 po3 fun d4 M4 p4 H4 w4 R4 L4 hl4 hp4 q4 e4 po4 => ?_
          exact h' W σ R4 (Rep.up (hp3.trans hp4) (hl3.trans hl4) _ q2) q4 e4 po4
        | false =>
          cases e2
          exact po3.ok R3 rep_bl
      | _ => exact nomatch e2
theorem de_chain {op op' : CmpOp} {r r' : R2} {g g' : G2} (ho : OpR X (compareOp op) r) (h : OD (Cx.k X z) r g) (ho' : OpR X (compareOp op') r') (h' : OD (Cx.k X z) r' g') (ha : DE X z W a fa) (hb : DE X z W b fb) (hc : DE X z W c fc)
    (hm : lastMarks [op, op'] [b, c] = false := by with_unfolding_all rfl) : DE X z W (.Compare a [op, op'] [b, c] pos) (eChain g g' fa fb fc) :=
  (pe_chain ho ho' ha hb hc hm).imp fun _ _ _ q => gE_chain h h' q
theorem dt_chain {op op' : CmpOp} {r r' : R2} {g g' : G2} (ho : OpR X (compareOp op) r) (h : OD (Cx.k X z) r g) (ho' : OpR X (compareOp op') r') (h' : OD (Cx.k X z) r' g') (ha : DE X z W a fa) (hb : DE X z W b fb) (hc : DE X z W c fc)
    (hm : lastMarks [op, op'] [b, c] = false := by with_unfolding_all rfl) : DT X z W (.Compare a [op, op'] [b, c] pos) (tVal (eChain g g' fa fb fc)) := by
  refine (pt_chain ho ho' ha hb hc hm).imp fun σ H Q q => ?_
  have q2 := gE_bOf q
  exact gE_chain (Q := fun x H' => ∃ c, x = .bl c ∧ Q c H') h h' q2
/-- is None -/
theorem rep_isN {K : PySem.W.Frag} {p : List Addr} {H : Hp} {d : D} {v : V} (q : Rep K p H d v) : decide (v = .non) = d.isNon := by
  cases d <;> (unfold Rep at q) <;> first
    | (subst q; rfl)
    | (obtain ⟨a, vs, rfl, _⟩ := q; rfl)
    | (obtain ⟨a, _, rfl⟩ := q; rfl)
theorem de_isN {j : Nat} {pos' : Pos} (ha : DE X z W a fa) : DE X z W (.Compare a [.Is] [.Constant .none j pos'] pos) (isN fa) := by
  refine (pe_cmp (pc_isN ha)).imp ?_
  rintro σ H Q ⟨p, M, ρ, o, R, L, e, po⟩
  refine gE_bnd R L e po fun d M1 p1 H1 v R1 L1 hl1 hp1 q1 e1 po1 => ?_
  cases e1
  rw [rep_isN q1]
  exact po1.ok R1 rep_bl
theorem de_isNN {j : Nat} {pos' : Pos} (ha : DE X z W a fa) : DE X z W (.Compare a [.IsNot] [.Constant .none j pos'] pos) (isNN fa) := by
  refine (pe_cmp (pc_notN ha)).imp ?_
  rintro σ H Q ⟨p, M, ρ, o, R, L, e, po⟩
  refine gE_bnd R L e po fun d M1 p1 H1 v R1 L1 hl1 hp1 q1 e1 po1 => ?_
  cases e1
  rw [rep_isN q1]
  exact po1.ok R1 rep_bl
theorem dt_isN {j : Nat} {pos' : Pos} (ha : DE X z W a fa) : DT X z W (.Compare a [.Is] [.Constant .none j pos'] pos) (tVal (isN fa)) := by
  refine (pt_cmp (pc_isN ha)).imp fun σ H Q q => ?_
  obtain ⟨p, M, ρ, o, R, L, e, po⟩ := gE_bOf q
  refine gE_bnd R L e po fun d M1 p1 H1 v R1 L1 hl1 hp1 q1 e1 po1 => ?_
  cases e1
  rw [rep_isN q1]
  exact po1.ok R1 rep_bl
theorem dt_isNN {j : Nat} {pos' : Pos} (ha : DE X z W a fa) : DT X z W (.Compare a [.IsNot] [.Constant .none j pos'] pos) (tVal (isNN fa)) := by
  refine (pt_cmp (pc_notN ha)).imp fun σ H Q q => ?_
  obtain ⟨p, M, ρ, o, R, L, e, po⟩ := gE_bOf q
  refine gE_bnd R L e po fun d M1 p1 H1 v R1 L1 hl1 hp1 q1 e1 po1 => ?_
  cases e1
  rw [rep_isN q1]
  exact po1.ok R1 rep_bl

/-! ### arguments, displays, calls -/
theorem da_nil : DA X z W [] aNil := by
  refine pa_nil.imp ?_
  rintro σ H Q ⟨p, M, ρ, o, R, L, e, po⟩
  cases e
  exact po.ok R reps_nil
theorem da_cons (ha : DE X z W e f) (hr : DA X z W es g) (hs : starEach (e :: es) X.env = (false, eval e X.env) :: starEach es X.env := by rfl) : DA X z W (e :: es) (aCons f g) := by
  refine (pa_cons ha hr hs).imp ?_
  rintro σ H Q ⟨p, M, ρ, o, R, L, e, po⟩
  refine gE_bnd R L e po fun d M1 p1 H1 v R1 L1 hl1 hp1 q1 e1 po1 => ?_
  refine gE_bnd R1 L1 e1 po1 fun ds M2 p2 H2 vs R2 L2 hl2 hp2 q2 e2 po2 => ?_
  cases e2
  exact po2.ok R2 (reps_cons (Rep.up hp2 hl2 _ q1) q2)
theorem de_tup {x1 : Nat} (h : DA X z W es g) : DE X z W (.Tuple es x1 pos) (eTup g) := by
  refine (pe_tupF h).imp ?_
  rintro σ H Q ⟨p, M, ρ, o, R, L, e, po⟩
  refine gE_bnd R L e po fun ds M1 p1 H1 vs R1 L1 hl1 hp1 q1 e1 po1 => ?_
  split at e1
  · rename_i hl
    cases e1
    exact ⟨by rw [← reps_len q1]; exact line_eq hl, po_tup R1 po1 q1⟩
  · cases e1
theorem de_lst (h : DA X z W es g) : DE X z W (.List es pos) (eLst g) := by
  refine (pe_lst h).imp ?_
  rintro σ H Q ⟨p, M, ρ, o, R, L, e, po⟩
  refine gE_bnd R L e po fun ds M1 p1 H1 vs R1 L1 hl1 hp1 q1 e1 po1 => ?_
  split at e1
  · rename_i hl
    cases e1
    exact ⟨by rw [← reps_len q1]; exact line_eq hl, po_lst R1 po1 q1⟩
  · cases e1
/-- what a def promises: its mirror -/
def spD (K : PySem.W.Frag) (mg : Str → Option Value) (n : Nat) (m : List D → Hd → Option (Rs D)) : Sp := fun vs H Q E => ∃ p M ds o, Rl K mg p M H ∧ Reps K p H ds vs ∧ ds.length = n ∧ m ds M = some o ∧ match o with
  | .ok d M' => ∀ p' H' v, p <+: p' → Le H H' → Rl K mg p' M' H' → Rep K p' H' d v → Q v H'
  | .er c M' => ∀ p' H' C, p <+: p' → Le H H' → Rl K mg p' M' H' → mg c = some (.ref C) → E (.ref C) none H'
/-- a def of the module, by its mirror -/
structure Dfn (P : Program) (w : World) (K : PySem.W.Frag) (mg : Str → Option Value) (base : Heap) (k : Nat) (x : Str) (n : Nat) (m : List D → Hd → Option (Rs D)) : Prop where
  ln : ∀ ds M o, m ds M = some o → ds.length = n
  ex : ∃ f fd ps, mg x = some (.ref f) ∧ PySem.W.keepIn K (.ref f) = true ∧ Binds K fd ps [] ∧ FnOk P w K mg base (L2.CX P w) k f fd ps (spD K mg n m)
theorem Dfn.mono {P : Program} {w : World} {K : PySem.W.Frag} {mg : Str → Option Value} {base : Heap} {j k : Nat} {x : Str} {n : Nat} {m : List D → Hd → Option (Rs D)} (h : Dfn P w K mg base j x n m) (hk : j ≤ k) : Dfn P w K mg base k x n m := by
  obtain ⟨f, fd, ps, a, b, c, d⟩ := h.ex
  exact ⟨h.ln, f, fd, ps, a, b, c, d.mono hk⟩
/-- with a mirror that says less -/
theorem Dfn.imp {P : Program} {w : World} {K : PySem.W.Frag} {mg : Str → Option Value} {base : Heap} {k : Nat} {x : Str} {n : Nat} {m m' : List D → Hd → Option (Rs D)} (h : Dfn P w K mg base k x n m) (hm : ∀ ds M o, m' ds M = some o → m ds M = some o) : Dfn P w K mg base k x n m' := by
  obtain ⟨f, fd, ps, a, b, c, d⟩ := h.ex
  refine ⟨fun ds M o e => h.ln ds M o (hm ds M o e), f, fd, ps, a, b, c, d.imp ?_⟩
  rintro vs H Q E ⟨p, M, ds, o, R, L, l, e, po⟩
  exact ⟨p, M, ds, o, R, L, l, hm ds M o e, po⟩
theorem sp_of {k : Kx} {n : Nat} {m : List D → Hd → Option (Rs D)} {p : List Addr} {M : Hd} {H : Hp} {σ : L2.St} {Q : VK} {ds : List D} {vs : List V} {o : Rs D} (R : Rl k.K k.mg p M H) (q : Reps k.K p H ds vs) (hn : ds.length = n) (e : m ds M = some o) (po : PoE k W (rD k) p H σ o Q) :
    spD k.K k.mg n m vs H Q (fun cls d H' => W cls d σ H') := by
  refine ⟨p, M, ds, o, R, q, hn, e, ?_⟩
  cases o with
  | ok d M' => exact po
  | er c M' => exact po
theorem de_call {k n : Nat} {x : Str} {m : List D → Hd → Option (Rs D)} {p' : Pos} (F : Dfn X.prog X.w X.K X.mg X.base k x n m) (tk : Takes X W) (hr : Room k X.A) (ha : DA X z W (e :: es) g) (hg : Gl X x := by rfl) (hdb : (x == ("__debug__" : Str)) = false := by decide)
    (he : starEach (e :: es) X.env = (false, eval e X.env) :: starEach es X.env := by rfl) (hpl : (backTo pos (starEach es X.env)).any (·.1) = false := by rfl) : DE X z W (.Call (.Name x p') (e :: es) [] pos) (eCall m g) := by
  obtain ⟨f, fd, ps, h1, h2, h3, h4⟩ := F.ex
  refine (pe_callSD h4 hr hg h1 h2 h3 .nil (E := fun σ cls d H' => W cls d σ H') (fun σ => passAt tk σ) ha hdb he hpl).imp ?_
  rintro σ H Q ⟨p, M, ρ, o, R, L, e, po⟩
  refine gE_bnd R L e po fun ds M1 p1 H1 vs R1 L1 hl1 hp1 q1 e1 po1 => ?_
  rw [List.append_nil]
  exact sp_of R1 q1 (F.ln _ _ _ e1) e1 po1

/-! ### len, items -/
theorem len_of {k : Kx} {p : List Addr} {M : Hd} {H : Hp} {σ : L2.St} {Q : VK} {d : D} {v : V} {o : Rs D} (R : Rl k.K k.mg p M H) (q : Rep k.K p H d v) (e : lenD d M = some o) (po : PoE k W (rD k) p H σ o Q) : ∃ n, LenV k.K v H n ∧ Q (.int n) H := by
  cases d with
  | str x =>
    unfold lenD at e
    dsimp only at e
    split at e
    · rename_i hl
      cases e
      unfold Rep at q
      subst q
      exact ⟨_, ⟨line_eq hl, rfl⟩, po.ok R rep_int⟩
    · cases e
  | tup ds =>
    cases e
    obtain ⟨a, vs, rfl, s, r⟩ := rep_items (ds := ds) R q rfl
    exact ⟨vs.length, s.elim (fun s => .inl ⟨vs, s, rfl⟩) fun s => .inr ⟨vs, s, rfl⟩, po.ok R (by rw [reps_len r]; exact rep_int)⟩
  | fl ds =>
    cases e
    obtain ⟨a, vs, rfl, s, r⟩ := rep_items (ds := ds) R q rfl
    exact ⟨vs.length, s.elim (fun s => .inl ⟨vs, s, rfl⟩) fun s => .inr ⟨vs, s, rfl⟩, po.ok R (by rw [reps_len r]; exact rep_int)⟩
  | ref i =>
    unfold lenD at e
    dsimp only at e
    split at e
    · rename_i ds ho
      cases e
      obtain ⟨a, vs, rfl, _, s, r⟩ := rep_lst R q ho
      exact ⟨vs.length, .inl ⟨vs, SqL.of s, rfl⟩, po.ok R (by rw [reps_len r]; exact rep_int)⟩
    · cases e
  | _ => cases e
theorem de_len {p' : Pos} (ha : DE X z W e f) (hm : X.mg "len" = none) (hg : Gl X "len" := by rfl) (he : starEach [e] X.env = (false, eval e X.env) :: starEach [] X.env := by rfl) : DE X z W (.Call (.Name "len" p') [e] [] pos) (eUn lenD f) := by
  refine (pe_callB call_len hg hm PySem.boot_len (pa_cons ha pa_nil he) (he := he)).imp ?_
  rintro σ H Q ⟨p, M, ρ, o, R, L, e, po⟩
  refine gE_bnd R L e po fun d M1 p1 H1 v R1 L1 hl1 hp1 q1 e1 po1 => ?_
  obtain ⟨n, h1, h2⟩ := len_of R1 q1 e1 po1
  exact ⟨v, n, rfl, h1, h2⟩
theorem od_ix {k : Kx} : OD k (rIx k.K) ixG := by
  intro p M H x y v u o Q W σ R q1 q2 e po
  cases y with
  | int i =>
    unfold Rep at q2
    subst q2
    have got : ∀ {ds : List D} {vs : List V}, Reps k.K p H ds vs → pr M (atI ds i) = some o → ∃ w, atI vs i = some w ∧ Q w H := fun {ds vs} r e => by
      cases e2 : atI ds i with
      | none => rw [e2] at e; cases e
      | some d =>
        rw [e2] at e
        cases e
        obtain ⟨w, h1, h2⟩ := reps_atI r e2
        exact ⟨w, h1, po.ok R h2⟩
    cases x with
    | tup ds =>
      unfold Rep at q1
      obtain ⟨a, vs, rfl, s, r⟩ := q1
      obtain ⟨w, h1, h2⟩ := got r e
      exact .inr (.inl ⟨a, vs, i, w, rfl, rfl, s.sq, h1, h2⟩)
    | fl ds =>
      obtain ⟨a, vs, rfl, s, r⟩ := rep_items (ds := ds) R q1 rfl
      obtain ⟨w, h1, h2⟩ := got r e
      rcases s with s | s
      · exact .inl ⟨a, vs, i, w, rfl, rfl, s, h1, h2⟩
      · exact .inr (.inl ⟨a, vs, i, w, rfl, rfl, s, h1, h2⟩)
    | ref j =>
      unfold ixG at e
      dsimp only at e
      split at e
      · rename_i ds ho
        obtain ⟨a, vs, rfl, _, s, r⟩ := rep_lst R q1 ho
        obtain ⟨w, h1, h2⟩ := got r e
        exact .inl ⟨a, vs, i, w, rfl, rfl, SqL.of s, h1, h2⟩
      · cases e
    | str x =>
      unfold ixG at e
      dsimp only at e
      split at e
      · rename_i hl
        unfold Rep at q1
        subst q1
        cases e2 : atI x.cps.toList i with
        | none => rw [e2] at e; cases e
        | some c =>
          rw [e2] at e
          cases e
          exact .inr (.inr ⟨x, i, c, rfl, rfl, line_eq hl, e2, po.ok R rep_str⟩)
      · cases e
    | _ => cases e
  | _ => cases e
theorem de_ix (ha : DE X z W a fa) (hb : DE X z W b fb) (hs : PlainIx b := by exact fun _ _ => rfl) : DE X z W (.Subscript a b pos) (eOp ixG fa fb) :=
  (pe_ix ix_seq ha hb hs).imp fun _ _ _ q => gE_op od_ix q
end

/-! ### statements -/
def PoS (k : Kx) (W : WX) (p : List Addr) (H : Hp) (o : Fl × Hd) (Dn : Ends) : Prop := match o with
  | (.nx r, M) => ∀ p' H' σ', p <+: p' → Le H H' → Rl k.K k.mg p' M H' → Sl k.K k.z p' H' r σ' → Dn.nx σ' H'
  | (.bk r, M) => ∀ p' H' σ', p <+: p' → Le H H' → Rl k.K k.mg p' M H' → Sl k.K k.z p' H' r σ' → Dn.bk σ' H'
  | (.ct r, M) => ∀ p' H' σ', p <+: p' → Le H H' → Rl k.K k.mg p' M H' → Sl k.K k.z p' H' r σ' → Dn.ct σ' H'
  | (.rt d, M) => ∀ p' H' v, p <+: p' → Le H H' → Rl k.K k.mg p' M H' → Rep k.K p' H' d v → Dn.rt v H'
  | (.xx c r, M) => ∀ p' H' σ' C, p <+: p' → Le H H' → Rl k.K k.mg p' M H' → Sl k.K k.z p' H' r σ' → k.mg c = some (.ref C) → W (.ref C) none σ' H'
theorem PoS.up {k : Kx} {W : WX} {p p1 : List Addr} {H H1 : Hp} {o : Fl × Hd} {Dn : Ends} (h : PoS k W p H o Dn) (hp : p <+: p1) (hl : Le H H1) : PoS k W p1 H1 o Dn := by
  obtain ⟨f, M⟩ := o
  cases f with
  | nx r => exact fun p' H' s' a b c d => h p' H' s' (hp.trans a) (hl.trans b) c d
  | bk r => exact fun p' H' s' a b c d => h p' H' s' (hp.trans a) (hl.trans b) c d
  | ct r => exact fun p' H' s' a b c d => h p' H' s' (hp.trans a) (hl.trans b) c d
  | rt r => exact fun p' H' s' a b c d => h p' H' s' (hp.trans a) (hl.trans b) c d
  | xx c r => exact fun p' H' s' C a b c d => h p' H' s' C (hp.trans a) (hl.trans b) c d
def gS (k : Kx) (W : WX) (g : SF) : TS := fun Dn σ H => ∃ p M r o, Rl k.K k.mg p M H ∧ Sl k.K k.z p H r σ ∧ g r M = some o ∧ PoS k W p H o Dn
def DS (X : Cx) (z : Zx) (W : WX) (st : Stmt) (g : SF) : Prop := PS X st (gS (Cx.k X z) W g)
def DSs (X : Cx) (z : Zx) (W : WX) (st : List Stmt) (g : SF) : Prop := PSs X st (gS (Cx.k X z) W g)
section
variable {k : Kx} {W : WX} {α β : Type} {Re : List Addr → Hp → α → β → Prop}
theorem gE_exB {f : Ev → Hd → Option (Rs α)} {g : α → Hd → Option (Fl × Hd)} {r : Ev} {M : Hd} {p : List Addr} {σ : L2.St} {H : Hp} {o : Fl × Hd} {Dn : Ends} {S : β → Hp → Prop} (R : Rl k.K k.mg p M H) (L : Sl k.K k.z p H r σ)
    (e : exB (f r M) r g = some o) (po : PoS k W p H o Dn)
    (h : ∀ d M1 p1 H1 v, Rl k.K k.mg p1 M1 H1 → Sl k.K k.z p1 H1 r σ → Le H H1 → p <+: p1 → Re p1 H1 d v → g d M1 = some o → PoS k W p1 H1 o Dn → S v H1) : gE k W Re f σ H S := by
  cases ef : f r M with
  | none => rw [ef] at e; exact nomatch e
  | some x =>
    refine ⟨p, M, r, x, R, L, ef, ?_⟩
    rw [ef] at e
    cases x with
    | er c M1 =>
      cases e
      exact fun p1 H1 C hp hl R1 q => po p1 H1 σ C hp hl R1 (L.up hp hl) q
    | ok d M1 =>
      intro p1 H1 v hp hl R1 q
      exact h d M1 p1 H1 v R1 (L.up hp hl) hl hp q e (po.up hp hl)
end
theorem PoS.nx {k : Kx} {W : WX} {p : List Addr} {H : Hp} {r : Ev} {M : Hd} {Dn : Ends} (po : PoS k W p H (.nx r, M) Dn) {σ : L2.St} (R : Rl k.K k.mg p M H) (L : Sl k.K k.z p H r σ) : Dn.nx σ H := po p H σ (List.prefix_refl p) (Le.refl H) R L
theorem PoS.rt {k : Kx} {W : WX} {p : List Addr} {H : Hp} {d : D} {M : Hd} {Dn : Ends} (po : PoS k W p H (.rt d, M) Dn) {v : V} (R : Rl k.K k.mg p M H) (q : Rep k.K p H d v) : Dn.rt v H := po p H v (List.prefix_refl p) (Le.refl H) R q
section
variable {X : Cx} {z : Zx} {W : WX} {a b c e : Expr} {fa fb fc f : EF} {t u : TF} {pos : Pos} {st : Stmt} {rest sa sb : List Stmt} {g h : SF}
theorem dss_nil : DSs X z W [] sNil := by
  refine pss_nil.imp ?_
  rintro Dn σ H ⟨p, M, ρ, o, R, L, e, po⟩
  cases e
  exact po.nx R L
theorem dss_cons (h1 : DS X z W st g) (h2 : DSs X z W rest h) : DSs X z W (st :: rest) (sSeq g h) := by
  refine (pss_cons h1 h2).imp ?_
  rintro Dn σ H ⟨p, M, ρ, o, R, L, e, po⟩
  unfold sSeq at e
  cases eg : g ρ M with
  | none => rw [eg] at e; exact nomatch e
  | some x =>
    refine ⟨p, M, ρ, x, R, L, eg, ?_⟩
    rw [eg] at e
    obtain ⟨fl, M1⟩ := x
    cases fl with
    | nx r1 => exact fun p1 H1 σ1 hp hl R1 L1 => ⟨p1, M1, r1, o, R1, L1, e, po.up hp hl⟩
    | bk r1 => cases e; exact po
    | ct r1 => cases e; exact po
    | rt d => cases e; exact po
    | xx c r1 => cases e; exact po
theorem dss_one (h1 : DS X z W st g) : DSs X z W [st] g := pss_one h1
theorem dss_seq {g h : SF} (h1 : DS X z W st g) (h2 : DSs X z W rest h) : DSs X z W (st :: rest) (sSeq g h) := dss_cons h1 h2
theorem ds_pass : DS X z W (.Pass pos) sNil := by
  refine ps_pass.imp ?_
  rintro Dn σ H ⟨p, M, ρ, o, R, L, e, po⟩
  cases e
  exact po.nx R L
theorem ds_break : DS X z W (.Break pos) sBreak := by
  refine ps_break.imp ?_
  rintro Dn σ H ⟨p, M, ρ, o, R, L, e, po⟩
  cases e
  exact po p H σ (List.prefix_refl p) (Le.refl H) R L
theorem ds_cont : DS X z W (.Continue pos) sCont := by
  refine ps_continue.imp ?_
  rintro Dn σ H ⟨p, M, ρ, o, R, L, e, po⟩
  cases e
  exact po p H σ (List.prefix_refl p) (Le.refl H) R L
theorem ds_set {x : Str} {pos' : Pos} (i : Nat) (hN : X.N.Nodup) (he : DE X z W e f) (hi : X.N[i]? = some x := by rfl) (hx : Loc X.env.scope x := by first | exact Or.inl rfl | exact Or.inr rfl) (hs : swapsWith e (some (.Name x pos')) pos.line X.env = pure false := by rfl)
    (hf : X.fn x = true ∨ X.env.scope.names.lookup x = some .local := by first | exact .inl rfl | exact .inr rfl | assumption) : DS X z W (.Assign [.Name x pos'] e pos) (sAsg i f) := by
  refine (ps_set hN hi hx he hs hf).imp ?_
  rintro Dn σ H ⟨p, M, ρ, o, R, L, e, po⟩
  refine gE_exB R L e po fun d M1 p1 H1 v R1 L1 hl1 hp1 q1 e1 po1 => ?_
  cases e1
  exact po1.nx R1 (L1.set i q1)
theorem ds_par {x y : Str} {px py pt : Pos} {kt k2 : Nat} {pt2 : Pos} (i j : Nat) (hc : X.calm = true) (hN : X.N.Nodup) (ha : DE X z W a fa) (hb : DE X z W b fb) (hi : X.N[i]? = some x := by rfl) (hj : X.N[j]? = some y := by rfl) (hij : i ≠ j := by decide)
    (hx : X.env.scope.names.lookup x = some .local := by rfl) (hy : X.env.scope.names.lookup y = some .local := by rfl)
    (hw : swappedStores [.Tuple [.Name x px, .Name y py] kt pt] (.Tuple [a, b] k2 pt2) X.env = pure (some [x, y]) := by rfl)
    (hs : swapsWithSole [.Tuple [.Name x px, .Name y py] kt pt] (.Tuple [a, b] k2 pt2) pos.line X.env = pure false := by rfl)
    (hsa : starEach [a, b] X.env = (false, eval a X.env) :: starEach [b] X.env := by rfl) (hsb : starEach [b] X.env = (false, eval b X.env) :: starEach [] X.env := by rfl) :
    DS X z W (.Assign [.Tuple [.Name x px, .Name y py] kt pt] (.Tuple [a, b] k2 pt2) pos) (sPar i j fa fb) := by
  refine (ps_par hc hN hi hj hij hx hy (pa_cons ha (pa_cons hb pa_nil hsb) hsa) hw hs).imp ?_
  rintro Dn σ H ⟨p, M, ρ, o, R, L, e, po⟩
  refine gE_exB R L e po fun d M1 p1 H1 v R1 L1 hl1 hp1 q1 e1 po1 => ?_
  refine gE_exB R1 L1 e1 po1 fun d2 M2 p2 H2 w R2 L2 hl2 hp2 q2 e2 po2 => ?_
  cases e2
  exact ⟨v, w, rfl, po2.nx R2 ((L2.set i (Rep.up hp2 hl2 _ q1)).set j q2)⟩
theorem ds_drop (he : DE X z W e f) (hs : swapsWith e none pos.line X.env = pure false := by rfl) : DS X z W (.Expr e pos) (sDrop f) := by
  refine (ps_expr he hs).imp ?_
  rintro Dn σ H ⟨p, M, ρ, o, R, L, e, po⟩
  refine gE_exB R L e po fun d M1 p1 H1 v R1 L1 hl1 hp1 q1 e1 po1 => ?_
  cases e1
  exact po1.nx R1 L1
theorem ds_ret (he : DE X z W e f) : DS X z W (.Return (some e) pos) (sRet f) := by
  refine (ps_ret he).imp ?_
  rintro Dn σ H ⟨p, M, ρ, o, R, L, e, po⟩
  refine gE_exB R L e po fun d M1 p1 H1 v R1 L1 hl1 hp1 q1 e1 po1 => ?_
  cases e1
  exact po1.rt R1 q1
theorem ds_retN : DS X z W (.Return none pos) sRetN := by
  refine ps_retN.imp ?_
  rintro Dn σ H ⟨p, M, ρ, o, R, L, e, po⟩
  cases e
  exact po.rt R rep_non
theorem ds_if (hc : DT X z W c t) (ha : DSs X z W sa g) (hb : DSs X z W sb h) : DS X z W (.If c sa sb pos) (sIf t g h) := by
  refine (ps_if hc ha hb).imp ?_
  rintro Dn σ H ⟨p, M, ρ, o, R, L, e, po⟩
  refine gE_exB R L e po fun d M1 p1 H1 v R1 L1 hl1 hp1 q1 e1 po1 => ?_
  cases q1
  cases d with
  | true => exact ⟨p1, M1, ρ, o, R1, L1, e1, po1⟩
  | false => exact ⟨p1, M1, ρ, o, R1, L1, e1, po1⟩
/-- x op= e -/
theorem ds_aug {x : Str} {op : Operator} {r : R2} {g : G2} {pos' : Pos} (i : Nat) (hN : X.N.Nodup) (ho : PIp X op r) (hg : OD (Cx.k X z) r g) (he : DE X z W e f) (hi : X.N[i]? = some x := by rfl) (hx : Loc X.env.scope x := by first | exact Or.inl rfl | exact Or.inr rfl)
    (hf : X.fn x = true ∨ X.env.scope.names.lookup x = some .local := by first | exact .inl rfl | exact .inr rfl | assumption) : DS X z W (.AugAssign (.Name x pos') op e pos) (sAug g i f) := by
  refine (ps_aug hN hi hx he ho hf).imp ?_
  rintro Dn σ H ⟨p, M, ρ, o, R, L, e, po⟩
  unfold sAug at e
  split at e
  · rename_i d hd
    obtain ⟨v, hv, q⟩ := L.at_ i d hd
    refine ⟨v, hv, ?_⟩
    refine gE_exB R L e po fun d1 M1 p1 H1 v1 R1 L1 hl1 hp1 q1 e1 po1 => ?_
    cases eg : g d d1 M1 with
    | none => rw [eg] at e1; cases e1
    | some o2 =>
      refine hg W σ R1 (Rep.up hp1 hl1 _ q) q1 eg ?_
      rw [eg] at e1
      cases o2 with
      | ok d2 M2 =>
        cases e1
        exact fun p2 H2 v2 hp2 hl2 R2 q2 => po1 p2 H2 _ hp2 hl2 R2 ((L1.up hp2 hl2).set i q2)
      | er c M2 =>
        cases e1
        exact fun p2 H2 C hp2 hl2 R2 q2 => po1 p2 H2 σ C hp2 hl2 R2 (L1.up hp2 hl2) q2
  · cases e
theorem ip_op {op : Operator} {r : R2} (h : OpR X (inplaceOp op) r) : PIp X op r := fun pins s σ H x y v u Q I r1 r2 q => h pins s σ H x y v u Q I r1 r2 q
theorem ds_while {hp : PassesOwn (model X.prog X.w) X.A X.env X.xe} (hc : DT X z W c t) (hb : DSs X z W sa g) : DS X z W (.While c sa [] pos) (sWhile t g) := by
  refine (ps_while hp hc hb).imp ?_
  rintro Dn σ H ⟨p, M, ρ, o, R, L, e, po⟩
  obtain ⟨n, e⟩ := of_sWhile e
  refine ⟨fun m σ' H' => ∃ p' M' r', Rl X.K X.mg p' M' H' ∧ Sl X.K z p' H' r' σ' ∧ wIter t g m r' M' = some o ∧ PoS (Cx.k X z) W p' H' o Dn, ⟨n, p, M, ρ, R, L, e, po⟩, ?_⟩
  rintro m σ' H' ⟨p', M', r', R', L', e', po'⟩
  cases m with
  | zero => exact nomatch e'
  | succ m =>
    unfold wIter at e'
    refine gE_exB R' L' e' po' fun d M1 p1 H1 v R1 L1 hl1 hp1 q1 e1 po1 => ?_
    cases q1
    cases d with
    | false =>
      cases e1
      exact po1.nx R1 L1
    | true =>
      rw [if_pos rfl]
      rw [if_pos rfl] at e1
      refine ⟨fun σ2 H2 => ∃ p' M' r', Rl X.K X.mg p' M' H2 ∧ Sl X.K z p' H2 r' σ2 ∧ wIter t g m r' M' = some o ∧ PoS (Cx.k X z) W p' H2 o Dn, fun σ2 H2 h2 => ⟨m, Nat.lt_succ_self m, h2⟩, ?_⟩
      cases eg : g r' M1 with
      | none => rw [eg] at e1; exact nomatch e1
      | some x =>
        refine ⟨p1, M1, r', x, R1, L1, eg, ?_⟩
        rw [eg] at e1
        obtain ⟨fl, M2⟩ := x
        cases fl with
        | nx r2 => exact fun p2 H2 σ2 hp2 hl2 R2 L2 => ⟨p2, M2, r2, R2, L2, e1, po1.up hp2 hl2⟩
        | ct r2 => exact fun p2 H2 σ2 hp2 hl2 R2 L2 => ⟨p2, M2, r2, R2, L2, e1, po1.up hp2 hl2⟩
        | bk r2 => cases e1; exact po1
        | rt d => cases e1; exact po1
        | xx c r2 => cases e1; exact po1
end
end DI

end

section
set_option Elab.async false
set_option linter.all false
set_option maxRecDepth 100000
set_option maxHeartbeats 4000000
/-! DI4: built-ins, targets, iterators, for, comprehensions, defs. -/
namespace DI
open PySem PySem.Spec PyProof.Rows L2

/-! ### isinstance -/
theorem kit_all (a b : Ty) : kitB a.nm b.nm = some (a.sub b) := by cases a <;> cases b <;> decide +kernel
theorem sqT_ty {K : PySem.W.Frag} {H : Hp} {a : Addr} {vs : List V} (h : SqT K H a vs) : TyX K H (.ref a) (.type "tuple") := by
  rcases h with (h | ⟨o, h⟩) | ⟨o, its, n, h, c, _⟩
  · exact .base (.tup h)
  · exact .fTuple h
  · exact .kTuple h c
theorem ty_of {k : Kx} {p : List Addr} {M : Hd} {H : Hp} {d : D} {v : V} {t : Ty} (R : Rl k.K k.mg p M H) (q : Rep k.K p H d v) (e : tyD d M = some t) : TyX k.K H v (.type t.nm) := by
  cases d with
  | non => cases e; unfold Rep at q; subst q; exact .base .non
  | bl b => cases e; unfold Rep at q; subst q; exact .base (.bl _)
  | int b => cases e; unfold Rep at q; subst q; exact .base (.int _)
  | str b => cases e; unfold Rep at q; subst q; exact .base (.str _)
  | tup ds =>
    cases e
    unfold Rep at q
    obtain ⟨a, vs, rfl, s, _⟩ := q
    exact sqT_ty s.sq
  | fl ds =>
    cases e
    unfold Rep at q
    obtain ⟨a, vs, rfl, s, _⟩ := q
    rcases s with ⟨o, s⟩ | s
    · exact .base (.frz s)
    · rcases s (fun _ => none) with (h | ⟨o, h⟩) | ⟨o, its, n, h, c, _⟩
      · cases h
      · cases h
      · exact .kList h c
  | ref i =>
    unfold tyD at e
    dsimp only at e
    unfold Rep at q
    obtain ⟨a, ha, rfl⟩ := q
    split at e
    · rename_i ds ho
      cases e
      obtain ⟨b, hb, vs, e1, _⟩ := R.ob i _ ho
      rw [ha] at hb
      cases hb
      exact .base (.lst e1)
    · rename_i ds ho
      cases e
      obtain ⟨b, hb, vs, e1, _⟩ := R.ob i _ ho
      rw [ha] at hb
      cases hb
      exact .base (.dK e1)
    · cases e
section
variable {X : Cx} {z : Zx} {W : WX} {a b c e : Expr} {fa fb fc f : EF} {t u : TF} {pos : Pos} {rest es : List Expr} {g : AF}
theorem de_isi {x : Str} {p' p2 : Pos} (T : Ty) (ha : DE X z W e f) (hm : X.mg "isinstance" = none) (hmT : X.mg x = none) (hb : bootBuiltins x = some (.type T.nm)) (hg : Gl X "isinstance" := by rfl) (hgT : Gl X x := by rfl) (hn : x ≠ "__name__" := by decide) (hdb : (x == ("__debug__" : Str)) = false := by decide)
    (he : starEach [e, .Name x p2] X.env = (false, eval e X.env) :: starEach [.Name x p2] X.env := by rfl) (hpl : (backTo pos (starEach [.Name x p2] X.env)).any (·.1) = false := by rfl) (he2 : starEach [.Name x p2] X.env = (false, eval (.Name x p2) X.env) :: starEach [] X.env := by rfl) :
    DE X z W (.Call (.Name "isinstance" p') [e, .Name x p2] [] pos) (eUn (isiG T) f) := by
  refine (pe_callB call_isi hg hm PyProof.Rows.boot_isinstance (pa_cons ha (pa_cons (pe_bltn (v := .ty T.nm) hgT hmT hb rfl hn hdb) pa_nil he2) he) (he := he) (hpl := hpl)).imp ?_
  rintro σ H Q ⟨p, M, ρ, o, R, L, e, po⟩
  refine gE_bnd R L e po fun d M1 p1 H1 v R1 L1 hl1 hp1 q1 e1 po1 => ?_
  unfold isiG at e1
  split at e1
  · rename_i t ht
    cases e1
    exact ⟨v, .ty T.nm, .type t.nm, .type T.nm, _, rfl, .ty _, ty_of R1 q1 ht, kit_ty (kit_all t T), po1.ok R1 rep_bl⟩
  · cases e1
/-! ### list, tuple, max, min -/
theorem de_list {p' : Pos} (ha : DE X z W e f) (hm : X.mg "list" = none) (hg : Gl X "list" := by rfl) (he : starEach [e] X.env = (false, eval e X.env) :: starEach [] X.env := by rfl) : DE X z W (.Call (.Name "list" p') [e] [] pos) (eUn listG f) := by
  refine (pe_callTy call_list_of hg hm PyProof.Rows.boot_list (pa_cons ha pa_nil he) (he := he)).imp ?_
  rintro σ H Q ⟨p, M, ρ, o, R, L, e, po⟩
  refine gE_bnd R L e po fun d M1 p1 H1 v R1 L1 hl1 hp1 q1 e1 po1 => ?_
  unfold listG at e1
  split at e1
  · rename_i ds hd
    cases e1
    obtain ⟨a, vs, rfl, s, r⟩ := rep_items R1 q1 hd
    exact ⟨a, vs, rfl, s, po_lst R1 po1 r⟩
  · cases e1
theorem de_tuple {p' : Pos} (ha : DE X z W e f) (hm : X.mg "tuple" = none) (hg : Gl X "tuple" := by rfl) (he : starEach [e] X.env = (false, eval e X.env) :: starEach [] X.env := by rfl) : DE X z W (.Call (.Name "tuple" p') [e] [] pos) (eUn tupleG f) := by
  refine (pe_callTy call_tupleF hg hm PyProof.Rows.boot_tuple (pa_cons ha pa_nil he) (he := he)).imp ?_
  rintro σ H Q ⟨p, M, ρ, o, R, L, e, po⟩
  refine gE_bnd R L e po fun d M1 p1 H1 v R1 L1 hl1 hp1 q1 e1 po1 => ?_
  cases d with
  | tup ds =>
    cases e1
    unfold Rep at q1
    obtain ⟨a, vs, rfl, s, r⟩ := q1
    exact ⟨a, vs, rfl, .inr ⟨s.sq, po1.ok R1 (rep_tup s r)⟩⟩
  | fl ds =>
    cases e1
    unfold Rep at q1
    obtain ⟨a, vs, rfl, s, r⟩ := q1
    refine ⟨a, vs, rfl, .inl ⟨?_, po_tup R1 po1 r⟩⟩
    rcases s with ⟨o, s⟩ | s
    · exact .inl (.inr ⟨o, s⟩)
    · exact s H1
  | ref i =>
    unfold tupleG at e1
    dsimp only at e1
    split at e1
    · rename_i ds ho
      cases e1
      obtain ⟨a, vs, rfl, _, s, r⟩ := rep_lst R1 q1 ho
      exact ⟨a, vs, rfl, .inl ⟨SqL.of s, po_tup R1 po1 r⟩⟩
    · cases e1
  | _ => cases e1
/-- a built-in that gives an int of some ints -/
theorem ga2 {k : Kx} {p : List Addr} {H : Hp} {i j : Int} {vs : List V} (q : Reps k.K p H [.int i, .int j] vs) : vs = [.int i, .int j] := by
  unfold Reps at q
  obtain ⟨v, ws, rfl, a, q⟩ := q
  unfold Reps at q
  obtain ⟨v2, ws, rfl, b, q⟩ := q
  unfold Reps at q
  unfold Rep at a b
  subst a b q
  rfl
theorem de_max2 {p' : Pos} (hc : X.calm = true) (ha : DA X z W (e :: es) g) (hm : X.mg "max" = none) (hg : Gl X "max" := by rfl) (he : starEach (e :: es) X.env = (false, eval e X.env) :: starEach es X.env := by rfl) (hpl : (backTo pos (starEach es X.env)).any (·.1) = false := by rfl) :
    DE X z W (.Call (.Name "max" p') (e :: es) [] pos) (eCB max2 g) := by
  refine (pe_callB (call_max2 hc) hg hm PyProof.Rows.boot_max ha (he := he) (hpl := hpl)).imp ?_
  rintro σ H Q ⟨p, M, ρ, o, R, L, e, po⟩
  refine gE_bnd R L e po fun d M1 p1 H1 v R1 L1 hl1 hp1 q1 e1 po1 => ?_
  unfold max2 at e1
  split at e1
  · cases e1
    exact ⟨_, _, ga2 (k := Cx.k X z) q1, po1.ok R1 rep_int⟩
  · cases e1
theorem de_min2 {p' : Pos} (hc : X.calm = true) (ha : DA X z W (e :: es) g) (hm : X.mg "min" = none) (hg : Gl X "min" := by rfl) (he : starEach (e :: es) X.env = (false, eval e X.env) :: starEach es X.env := by rfl) (hpl : (backTo pos (starEach es X.env)).any (·.1) = false := by rfl) :
    DE X z W (.Call (.Name "min" p') (e :: es) [] pos) (eCB min2 g) := by
  refine (pe_callB (call_min2 hc) hg hm PyProof.Rows.boot_min ha (he := he) (hpl := hpl)).imp ?_
  rintro σ H Q ⟨p, M, ρ, o, R, L, e, po⟩
  refine gE_bnd R L e po fun d M1 p1 H1 v R1 L1 hl1 hp1 q1 e1 po1 => ?_
  unfold min2 at e1
  split at e1
  · cases e1
    exact ⟨_, _, ga2 (k := Cx.k X z) q1, po1.ok R1 rep_int⟩
  · cases e1
/-! ### methods of lists -/
theorem rep_put {k : Kx} {p : List Addr} {M : Hd} {H : Hp} {σ : L2.St} {Q : VK} {i : Nat} {a : Addr} {ds : List D} {vs : List V} {d : D} {v : V} (R : Rl k.K k.mg p M H) (ha : p[i]? = some a) (r : Reps k.K p H ds vs) (q : Rep k.K p H d v) (po : PoE k W (rD k) p H σ (.ok d (M.set i (.lst ds))) Q) : Q v (upd H a (.lst vs)) := by
  obtain ⟨R2, hl⟩ := R.put (u := .lst vs) (o := .lst ds) ha fun hl => ⟨vs, upd_same, Reps.up (List.prefix_refl p) hl _ r⟩
  exact po p _ v (List.prefix_refl p) hl R2 (Rep.up (List.prefix_refl p) hl _ q)
theorem gE_lm {g : Nat → List D → List D → Hd → Option (Rs D)} {r : V → List V → Hp → VK → Prop} {k : Kx} {ga : AF} (h : ∀ {p M H a i ds vs as ws o Q} (σ : L2.St), Rl k.K k.mg p M H → p[i]? = some a → M[i]? = some (.lst ds) → H a = some (.lst vs) → Reps k.K p H ds vs → Reps k.K p H as ws → g i ds as M = some o → PoE k W (rD k) p H σ o Q → r (.ref a) ws H Q)
    {σ : L2.St} {H : Hp} {Q : VK} (q : gE k W (rD k) (eLm g f ga) σ H Q) : tBM k.K "list" r (gE k W (rD k) f) (gE k W (rA k) ga) σ H Q := by
  obtain ⟨p, M, ρ, o, R, L, e, po⟩ := q
  refine gE_bnd R L e po fun d M1 p1 H1 v R1 L1 hl1 hp1 q1 e1 po1 => ?_
  cases d with
  | ref i =>
    dsimp only at e1
    split at e1
    · rename_i ds0 ho
      obtain ⟨a, vs0, rfl, ha, s, r0⟩ := rep_lst R1 q1 ho
      refine ⟨.inl ⟨rfl, _, SqL.of s⟩, ?_⟩
      refine gE_bnd R1 L1 e1 po1 fun as M2 p2 H2 ws R2 L2 hl2 hp2 q2 e2 po2 => ?_
      split at e2
      · rename_i ds ho2
        obtain ⟨a2, vs, e3, ha2, s2, r2⟩ := rep_lst R2 (Rep.up hp2 hl2 _ q1) ho2
        cases e3
        exact h σ R2 ha2 ho2 s2 r2 q2 e2 po2
      · cases e2
    · cases e1
  | _ => cases e1
theorem reps1 {k : Kx} {p : List Addr} {H : Hp} {d : D} {ws : List V} (q : Reps k.K p H [d] ws) : ∃ v, ws = [v] ∧ Rep k.K p H d v := by
  unfold Reps at q
  obtain ⟨v, ws, rfl, a, q⟩ := q
  unfold Reps at q
  subst q
  exact ⟨v, rfl, a⟩
theorem de_append {ap : Pos} (ha : DE X z W a fa) (hb : DA X z W (e :: es) g) (hbm : attributeBase a "append" X.env (eval a X.env) = eval a X.env := by rfl) (he : starEach (e :: es) X.env = (false, eval e X.env) :: starEach es X.env := by rfl)
    (hfew : ((backTo pos (starEach (e :: es) X.env)).all (fun x => !x.1) && (backToKw pos (keywordEach [] X.env)).all (fun x => x.1.isSome) && decide ((e :: es).length + ([] : List Keyword).length + (if ([] : List Keyword).isEmpty then 0 else 1) < 30)) = true := by rfl)
    (hln : (ap.endLine == pos.line) = true := by rfl) (hpl : (backTo pos (starEach es X.env)).any (·.1) = false := by rfl) : DE X z W (.Call (.Attribute a "append" ap) (e :: es) [] pos) (eLm appendG fa g) := by
  refine (pe_bm PySem.F.plainAttrs_list PySem.F.slot_list_append PySem.F.type_list_append mt_append ha hb hbm hfew hln he hpl).imp fun σ H Q q => ?_
  refine gE_lm (k := Cx.k X z) (fun {p M H a i ds vs as ws o Q} σ R ha ho s r0 q1 e po => ?_) q
  unfold appendG at e
  split at e
  · split at e
    · rename_i hl
      cases e
      obtain ⟨v, rfl, q3⟩ := reps1 q1
      exact ⟨a, vs, v, rfl, rfl, s, by rw [← reps_len r0]; exact line_lt hl, rep_put R ha (reps_app r0 (reps_cons q3 reps_nil)) rep_non po⟩
    · cases e
  · cases e
theorem de_extend {ap : Pos} (ha : DE X z W a fa) (hb : DA X z W (e :: es) g) (hbm : attributeBase a "extend" X.env (eval a X.env) = eval a X.env := by rfl) (he : starEach (e :: es) X.env = (false, eval e X.env) :: starEach es X.env := by rfl)
    (hfew : ((backTo pos (starEach (e :: es) X.env)).all (fun x => !x.1) && (backToKw pos (keywordEach [] X.env)).all (fun x => x.1.isSome) && decide ((e :: es).length + ([] : List Keyword).length + (if ([] : List Keyword).isEmpty then 0 else 1) < 30)) = true := by rfl)
    (hln : (ap.endLine == pos.line) = true := by rfl) (hpl : (backTo pos (starEach es X.env)).any (·.1) = false := by rfl) : DE X z W (.Call (.Attribute a "extend" ap) (e :: es) [] pos) (eLm extendG fa g) := by
  refine (pe_bm PySem.F.plainAttrs_list PySem.F.slot_list_extend PySem.F.type_list_extend mt_extend ha hb hbm hfew hln he hpl).imp fun σ H Q q => ?_
  refine gE_lm (k := Cx.k X z) (fun {p M H a i ds vs as ws o Q} σ R ha ho s r0 q1 e po => ?_) q
  unfold extendG at e
  split at e
  · split at e
    · rename_i j es' hj
      split at e
      · rename_i hl
        cases e
        obtain ⟨v, rfl, q3⟩ := reps1 q1
        obtain ⟨b, us, rfl, _, s2, r2⟩ := rep_lst R q3 hj
        exact ⟨a, b, vs, us, rfl, rfl, s, s2, by rw [← reps_len r0, ← reps_len r2]; exact line_eq hl, rep_put R ha (reps_app r0 r2) rep_non po⟩
      · cases e
    · cases e
  · cases e
theorem reps_dropLast {k : Kx} {p : List Addr} {H : Hp} {ds : List D} {vs : List V} (h : Reps k.K p H ds vs) : Reps k.K p H ds.dropLast vs.dropLast := by
  rw [List.dropLast_eq_take, List.dropLast_eq_take, reps_len h]
  exact reps_take _ h
theorem de_pop {ap : Pos} (ha : DE X z W a fa) (hbm : attributeBase a "pop" X.env (eval a X.env) = eval a X.env := by rfl) (hln : (ap.endLine == pos.line) = true := by rfl) : DE X z W (.Call (.Attribute a "pop" ap) [] [] pos) (eLm popG fa aNil) := by
  refine (pe_bm0 PySem.F.plainAttrs_list PySem.F.slot_list_pop PySem.F.type_list_pop mt_pop ha hbm hln).imp fun σ H Q q => ?_
  obtain ⟨p, M, ρ, o, R, L, e, po⟩ := q
  refine gE_bnd R L e po fun d M1 p1 H1 v R1 L1 hl1 hp1 q1 e1 po1 => ?_
  cases d with
  | ref i =>
    dsimp only at e1
    split at e1
    · rename_i ds ho
      obtain ⟨a, vs, rfl, ha, s, r0⟩ := rep_lst R1 q1 ho
      refine ⟨.inl ⟨rfl, _, SqL.of s⟩, ?_⟩
      unfold aNil at e1
      simp only [bnd_ok, ho] at e1
      unfold popG at e1
      split at e1
      · rename_i y hy
        cases e1
        obtain ⟨u, h1, h2⟩ := reps_get r0 hy
        exact ⟨a, vs, u, rfl, rfl, s, by rw [← reps_len r0]; exact h1, rep_put R1 ha (reps_dropLast (k := Cx.k X z) r0) h2 po1⟩
      · cases e1
    · cases e1
  | _ => cases e1
/-! ### slices -/
def rO : List Addr → Hp → Option Int → Option Int → Prop := fun _ _ a b => b = a
def DO (X : Cx) (z : Zx) (W : WX) (e : Option Expr) (f : OF) : Prop := PO X e (gE (Cx.k X z) W rO f)
theorem do_none : DO X z W none oNone := by
  refine ⟨fun pins s σ H Q I h => po_none.run pins s σ H Q I ?_⟩
  obtain ⟨p, M, ρ, o, R, L, e, po⟩ := h
  cases e
  exact po.ok R rfl
theorem do_some (h : DE X z W e f) : DO X z W (some e) (oSome f) := by
  refine ⟨fun pins s σ H Q I h' => (po_some h).run pins s σ H Q I ?_⟩
  obtain ⟨p, M, ρ, o, R, L, e, po⟩ := h'
  refine gE_bnd R L e po fun d M1 p1 H1 v R1 L1 hl1 hp1 q1 e1 po1 => ?_
  cases d with
  | int i =>
    cases e1
    unfold Rep at q1
    exact ⟨i, q1, po1.ok R1 rfl⟩
  | _ => cases e1
theorem reps_cut {k : Kx} {p : List Addr} {H : Hp} {ds : List D} {vs : List V} (h : Reps k.K p H ds vs) (lo hi : Option Int) : Reps k.K p H (cutD ds lo hi) (cutV vs lo hi) := by
  unfold cutD cutV
  rw [← reps_len h]
  exact reps_take _ (reps_drop _ h)
theorem cut_all {α : Type} {ds : List α} {lo hi : Option Int} (h : HT.sIx ds.length 0 lo = 0 ∧ HT.sIx ds.length ds.length hi = ds.length) : cutD ds lo hi = ds := by
  unfold cutD
  rw [h.1, h.2]
  simp
theorem de_slice {lo hi : Option Expr} {fl fh : OF} {p2 : Pos} (he : DE X z W e f) (hl : DO X z W lo fl) (hh : DO X z W hi fh) : DE X z W (.Subscript e (.Slice lo hi none p2) pos) (eSl f fl fh) := by
  refine (pe_slice (sl_list.or sl_tupF) he hl hh).imp ?_
  rintro σ H Q ⟨p, M, ρ, o, R, L, e, po⟩
  refine gE_bnd R L e po fun d M1 p1 H1 v R1 L1 hl1 hp1 q1 e1 po1 => ?_
  refine gE_bnd R1 L1 e1 po1 fun l M2 p2 H2 l' R2 L2 hl2 hp2 q2 e2 po2 => ?_
  refine gE_bnd R2 L2 e2 po2 fun u M3 p3 H3 u' R3 L3 hl3 hp3 q3 e3 po3 => ?_
  cases q2
  cases q3
  have q4 := Rep.up (hp2.trans hp3) (hl2.trans hl3) _ q1
  cases d with
  | tup ds =>
    cases e3
    unfold Rep at q4
    obtain ⟨a, vs, rfl, s, r⟩ := q4
    refine .inr ⟨a, vs, rfl, s.sq, fun hw => ?_, fun hw => po_tup R3 po3 (reps_cut (k := Cx.k X z) r l u)⟩
    rw [← reps_len r] at hw
    rw [cut_all hw] at po3
    exact po3.ok R3 (rep_tup s r)
  | fl ds =>
    cases e3
    unfold Rep at q4
    obtain ⟨a, vs, rfl, s, r⟩ := q4
    refine .inl ⟨a, vs, rfl, ?_, po_lst R3 po3 (reps_cut (k := Cx.k X z) r l u)⟩
    rcases s with ⟨o, s⟩ | s
    · exact .inl (.inr ⟨o, s⟩)
    · exact s H3
  | ref i =>
    unfold sliceD at e3
    dsimp only at e3
    split at e3
    · rename_i ds ho
      cases e3
      obtain ⟨a, vs, rfl, _, s, r⟩ := rep_lst R3 q4 ho
      exact .inl ⟨a, vs, rfl, SqL.of s, po_lst R3 po3 (reps_cut (k := Cx.k X z) r l u)⟩
    · cases e3
  | _ => cases e3
theorem reps_rev {k : Kx} {p : List Addr} {H : Hp} : ∀ {ds : List D} {vs : List V}, Reps k.K p H ds vs → Reps k.K p H ds.reverse vs.reverse
  | [], _, h => by unfold Reps at h; subst h; exact reps_nil
  | d :: ds, _, h => by
    unfold Reps at h
    obtain ⟨v, ws, rfl, r, q⟩ := h
    rw [List.reverse_cons, List.reverse_cons]
    exact reps_app (reps_rev q) (reps_cons r reps_nil)
theorem de_rev {kk : Nat} {p1 p2 p3 : Pos} (he : DE X z W e f) : DE X z W (.Subscript e (.Slice none none (some (.UnaryOp .USub (.Constant (.int 1) kk p1) p2)) p3) pos) (eUn revG f) := by
  refine (pe_revL he).imp ?_
  rintro σ H Q ⟨p, M, ρ, o, R, L, e, po⟩
  refine gE_bnd R L e po fun d M1 p1 H1 v R1 L1 hl1 hp1 q1 e1 po1 => ?_
  cases d with
  | fl ds =>
    cases e1
    unfold Rep at q1
    obtain ⟨a, vs, rfl, s, r⟩ := q1
    refine ⟨a, vs, rfl, ?_, po_lst R1 po1 (reps_rev (k := Cx.k X z) r)⟩
    rcases s with ⟨o, s⟩ | s
    · exact .inl (.inr ⟨o, s⟩)
    · exact s H1
  | ref i =>
    unfold revG at e1
    dsimp only at e1
    split at e1
    · rename_i ds ho
      cases e1
      obtain ⟨a, vs, rfl, _, s, r⟩ := rep_lst R1 q1 ho
      exact ⟨a, vs, rfl, SqL.of s, po_lst R1 po1 (reps_rev (k := Cx.k X z) r)⟩
    · cases e1
  | _ => cases e1
/-! ### o[i] = e -/
theorem rep_putS {k : Kx} {p : List Addr} {M : Hd} {H : Hp} {i : Nat} {a : Addr} {ds : List D} {vs : List V} {r : Ev} {σ : L2.St} {Dn : Ends} (R : Rl k.K k.mg p M H) (L : Sl k.K k.z p H r σ) (ha : p[i]? = some a) (rr : Reps k.K p H ds vs) (po : PoS k W p H (.nx r, M.set i (.lst ds)) Dn) : Dn.nx σ (upd H a (.lst vs)) := by
  obtain ⟨R2, hl⟩ := R.put (u := .lst vs) (o := .lst ds) ha fun hl => ⟨vs, upd_same, Reps.up (List.prefix_refl p) hl _ rr⟩
  exact po p _ σ (List.prefix_refl p) hl R2 (L.up (List.prefix_refl p) hl)
theorem ds_setI {o i : Expr} {fo fi : EF} {p2 : Pos} (he : DE X z W e f) (ho : DE X z W o fo) (hi : DE X z W i fi)
    (ha : ∀ v, assign (.Subscript o i p2) X.env v = (do
      let ov ← holding [v] (eval o X.env)
      let iv ← holding [v, ov] (eval i X.env)
      standAt p2
      holding [v, ov, iv] (setItem ov iv v)
      release [v, ov, iv] []) := by intro _; rfl)
    (hs : swapsWithSole [.Subscript o i p2] e pos.line X.env = pure false := by rfl) (hw : swappedStores [.Subscript o i p2] e X.env = pure none := by rfl)
    (h1 : (assignEach [.Subscript o i p2] X.env).map (·.2) = [assign (.Subscript o i p2) X.env] := by rfl) : DS X z W (.Assign [.Subscript o i p2] e pos) (sSetI f fo fi) := by
  refine (ps_asg he (pg_sub ho hi set_list ha) hs hw h1).imp ?_
  rintro Dn σ H ⟨p, M, ρ, oo, R, L, e, po⟩
  refine gE_exB R L e po fun d M1 p1 H1 v R1 L1 hl1 hp1 q1 e1 po1 => ?_
  refine gE_exB R1 L1 e1 po1 fun d2 M2 p2 H2 v2 R2 L2 hl2 hp2 q2 e2 po2 => ?_
  refine gE_exB R2 L2 e2 po2 fun d3 M3 p3 H3 v3 R3 L3 hl3 hp3 q3 e3 po3 => ?_
  cases d2 with
  | ref i =>
    cases d3 with
    | int j =>
      dsimp only at e3
      split at e3
      · rename_i ds ho
        split at e3
        · rename_i n hn
          cases e3
          obtain ⟨a, vs, rfl, ha, s, r⟩ := rep_lst R3 (Rep.up hp3 hl3 _ q2) ho
          unfold Rep at q3
          refine ⟨a, vs, j, n, rfl, q3, s, by rw [← reps_len r]; exact hn, ?_⟩
          exact rep_putS R3 L3 ha (reps_set (Rep.up (hp2.trans hp3) (hl2.trans hl3) _ q1) n r) po3
        · cases e3
      · cases e3
    | _ => cases e3
  | _ => cases e3
end
end DI

end

section
set_option Elab.async false
set_option linter.all false
set_option maxRecDepth 100000
set_option maxHeartbeats 4000000
/-! DI5: targets, iterators, for, comprehensions, defs. -/
namespace DI
open PySem PySem.Spec PyProof.Rows L2

/-! ### slots forgotten -/
theorem wipe_at (σ : L2.St) : ∀ (vs : List Nat) (j : Nat), (wipe σ vs)[j]? = if j ∈ vs ∧ j < σ.length then some none else σ[j]?
  | [], j => by simp [wipe]
  | v :: vs, j => by
    unfold wipe
    rw [List.getElem?_set, wipe_at σ vs j, wipe_length]
    by_cases h : v = j
    · subst h
      by_cases hl : v < σ.length <;> simp [hl]
    · have h' : ¬ j = v := fun e => h e.symm
      simp [h, h']
theorem wipe_set {σ : L2.St} {i : Nat} {a : Option V} {vs : List Nat} (h : i ∈ vs) : wipe (σ.set i a) vs = wipe σ vs := by
  apply List.ext_getElem?
  intro j
  rw [wipe_at, wipe_at, List.length_set, List.getElem?_set]
  by_cases hj : j ∈ vs ∧ j < σ.length
  · rw [if_pos hj, if_pos hj]
  · rw [if_neg hj, if_neg hj]
    by_cases e : i = j
    · subst e
      have : ¬ i < σ.length := fun q => hj ⟨h, q⟩
      simp [this]
    · simp [e]
theorem wipe_wipe (σ : L2.St) (vs : List Nat) : wipe (wipe σ vs) vs = wipe σ vs := by
  apply List.ext_getElem?
  intro j
  rw [wipe_at, wipe_at, wipe_length]
  by_cases hj : j ∈ vs ∧ j < σ.length <;> simp [hj]
theorem wip_at (r : Ev) : ∀ (vs : List Nat) (j : Nat), (wip r vs)[j]? = if j ∈ vs ∧ j < r.length then some none else r[j]?
  | [], j => by simp [wip]
  | v :: vs, j => by
    have hl : ∀ vs, (wip r vs).length = r.length := fun vs => by
      induction vs with
      | nil => rfl
      | cons v vs ih => unfold wip; rw [List.length_set, ih]
    unfold wip
    rw [List.getElem?_set, wip_at r vs j, hl]
    by_cases h : v = j
    · subst h
      by_cases hl : v < r.length <;> simp [hl]
    · have h' : ¬ j = v := fun e => h e.symm
      simp [h, h']
theorem wip_length (r : Ev) : ∀ vs, (wip r vs).length = r.length
  | [] => rfl
  | v :: vs => by unfold wip; rw [List.length_set, wip_length r vs]
theorem Sl.wip {K : PySem.W.Frag} {p : List Addr} {H : Hp} {r : Ev} {σ : L2.St} (s : Sl K none p H r σ) (vs : List Nat) : Sl K none p H (wip r vs) (wipe σ vs) := by
  refine ⟨by rw [wip_length, wipe_length]; exact s.len, fun i d e => ?_, fun a i e => nomatch e⟩
  rw [wip_at] at e
  split at e
  · cases e
  · rename_i h
    obtain ⟨v, hv, q⟩ := s.at_ i d e
    refine ⟨v, ?_, q⟩
    rw [wipe_at, if_neg (by rw [← s.len]; exact h)]
    exact hv

/-! ### targets -/
def gG (k : Kx) (t : Tg) : TG := fun v σ H Q => ∃ p M r d r1, Rl k.K k.mg p M H ∧ Sl k.K k.z p H r σ ∧ Rep k.K p H d v ∧ t.put d r = some r1 ∧
  ∀ σ', Sl k.K k.z p H r1 σ' → (∀ vs, (∀ i ∈ t.sl, i ∈ vs) → wipe σ' vs = wipe σ vs) → Q σ' H
def DG (X : Cx) (z : Zx) (e : Expr) (t : Tg) : Prop := PG X e (gG (Cx.k X z) t)
theorem _root_.L2.PG.imp {X : Cx} {e : Expr} {t u : TG} (h : PG X e t) (q : ∀ v σ H Q, u v σ H Q → t v σ H Q) : PG X e u := ⟨fun pins s σ H v u Q I r k => h.run pins s σ H v u Q I r (q _ _ _ _ k)⟩
section
variable {X : Cx} {z : Zx} {W : WX} {a b c e : Expr} {fa fb fc f : EF} {t u : TF} {pos : Pos} {st : Stmt} {rest sa sb : List Stmt} {g h : SF}
theorem dg_nm {x : Str} (i : Nat) (hN : X.N.Nodup) (hi : X.N[i]? = some x := by rfl) (hx : Loc X.env.scope x := by first | exact Or.inl rfl | exact Or.inr rfl) (hf : X.fn x = true ∨ X.env.scope.names.lookup x = some .local := by first | exact .inl rfl | exact .inr rfl | assumption) : DG X z (.Name x pos) (.nm i) := by
  refine (pg_name hN hi hx hf).imp ?_
  rintro v σ H Q ⟨p, M, r, d, r1, R, L, q, e, k⟩
  cases e
  exact k _ (L.set i q) fun vs hv => wipe_set (hv i (by simp [Tg.sl]))
/-- several names -/
def gGs (k : Kx) (l : List Nat) : TGs := fun ws σ H Q => ∃ p M r ds r1, Rl k.K k.mg p M H ∧ Sl k.K k.z p H r σ ∧ Reps k.K p H ds ws ∧ setAll l ds r = some r1 ∧
  ∀ σ', Sl k.K k.z p H r1 σ' → (∀ vs, (∀ i ∈ l, i ∈ vs) → wipe σ' vs = wipe σ vs) → Q σ' H
def DGs (X : Cx) (z : Zx) (es : List Expr) (l : List Nat) : Prop := PGs X es (gGs (Cx.k X z) l)
theorem dgs_nil : DGs X z [] [] := by
  refine ⟨fun pins s σ H vs us Q I r h => (pgs_nil (X := X)).run pins s σ H vs us Q I r ?_⟩
  obtain ⟨p, M, ρ, ds, r1, R, L, q, e, k⟩ := h
  cases ds with
  | nil =>
    cases e
    unfold Reps at q
    exact ⟨q, k _ L fun vs _ => rfl⟩
  | cons _ _ => cases e
theorem dgs_cons {x : Str} {es : List Expr} {l : List Nat} (i : Nat) (hN : X.N.Nodup) (hr : DGs X z es l) (hi : X.N[i]? = some x := by rfl) (hx : Loc X.env.scope x := by first | exact Or.inl rfl | exact Or.inr rfl) (hf : X.fn x = true ∨ X.env.scope.names.lookup x = some .local := by first | exact .inl rfl | exact .inr rfl | assumption)
    (hs : (assignEach (.Name x pos :: es) X.env).map (·.2) = assign (.Name x pos) X.env :: (assignEach es X.env).map (·.2) := by rfl) : DGs X z (.Name x pos :: es) (i :: l) := by
  refine ⟨fun pins s σ H vs us Q I r h => (pgs_cons (pg_name hN hi hx hf) hr hs).run pins s σ H vs us Q I r ?_⟩
  obtain ⟨p, M, ρ, ds, r1, R, L, q, e, k⟩ := h
  cases ds with
  | nil => cases e
  | cons d ds =>
    unfold Reps at q
    obtain ⟨v, ws, rfl, q1, q2⟩ := q
    refine ⟨v, ws, rfl, ?_⟩
    refine ⟨p, M, ρ.set i (some d), ds, r1, R, L.set i q1, q2, e, fun σ' L' w => k σ' L' fun vs hv => ?_⟩
    rw [w vs fun j hj => hv j (List.mem_cons_of_mem _ hj)]
    exact wipe_set (hv i List.mem_cons_self)
theorem dg_tp {es : List Expr} {kk : Nat} {l : List Nat} {n : Nat} (hc : X.calm = true) (h : DGs X z es l) (hl : l.length = n := by rfl) (hn : (assignEach es X.env).length = n := by rfl) (hst : (assignEach es X.env).findIdx? (·.1) = none := by rfl) : DG X z (.Tuple es kk pos) (.tp l) := by
  refine (pg_tup (n := n) hc h hn hst).imp ?_
  rintro v σ H Q ⟨p, M, r, d, r1, R, L, q, e, k⟩
  cases d with
  | tup ds =>
    unfold Rep at q
    obtain ⟨a, vs, rfl, s, rr⟩ := q
    have hlen : ∀ (l : List Nat) (ds : List D) (r r1 : Ev), setAll l ds r = some r1 → ds.length = l.length := by
      intro l
      induction l with
      | nil => intro ds r r1 e; cases ds with | nil => rfl | cons _ _ => cases e
      | cons i l ih => intro ds r r1 e; cases ds with | nil => cases e | cons d ds => rw [List.length_cons, List.length_cons, ih ds _ _ e]
    exact ⟨a, vs, rfl, s.sq, by rw [← reps_len rr, hlen l ds r r1 e, hl], p, M, r, ds, r1, R, L, rr, e, k⟩
  | _ => cases e
theorem ds_asgT {es : List Expr} {kk : Nat} {p2 : Pos} {l : List Nat} (he : DE X z W e f) (hg : DG X z (.Tuple es kk p2) (.tp l)) (hs : swapsWithSole [.Tuple es kk p2] e pos.line X.env = pure false := by rfl) (hw : swappedStores [.Tuple es kk p2] e X.env = pure none := by rfl)
    (h1 : (assignEach [.Tuple es kk p2] X.env).map (·.2) = [assign (.Tuple es kk p2) X.env] := by rfl) : DS X z W (.Assign [.Tuple es kk p2] e pos) (sAsgT l f) := by
  refine (ps_asg he hg hs hw h1).imp ?_
  rintro Dn σ H ⟨p, M, ρ, o, R, L, e, po⟩
  refine gE_exB R L e po fun d M1 p1 H1 v R1 L1 hl1 hp1 q1 e1 po1 => ?_
  split at e1
  · rename_i r1 hr1
    cases e1
    exact ⟨p1, M1, ρ, d, r1, R1, L1, q1, hr1, fun σ' L' _ => po1.nx R1 L'⟩
  · cases e1
end

/-! ### iterators -/
def ItOk (k : Kx) (p0 : List Addr) (H0 : Hp) (x : List D × Gd) (J : It) : Prop := ∀ (n : Nat) (p : List Addr) (M : Hd) (H : Hp), p0 <+: p → Le H0 H → Rl k.K k.mg p M H → Still x.2 M →
  (∀ d, x.1[n]? = some d → J.go n H ∧ ∀ v H', J.yld n H v H' → Le H H' ∧ Rl k.K k.mg p M H' ∧ Rep k.K p H' d v) ∧ (n = x.1.length → J.stop n H)
def DI_ (X : Cx) (z : Zx) (W : WX) (tg e : Expr) (f : IF) : Prop := PI X tg e (gE (Cx.k X z) W (ItOk (Cx.k X z)) f)
theorem _root_.L2.PI.imp {X : Cx} {tg e : Expr} {t u : TI} (h : PI X tg e t) (q : ∀ σ H R, u σ H R → t σ H R) : PI X tg e u := ⟨fun pins s σ H R I k => h.run pins s σ H R I (q _ _ _ k)⟩
section
variable {X : Cx} {z : Zx} {W : WX} {a b c e tg : Expr} {fa fb fc f : EF} {t u : TF} {pos : Pos} {st : Stmt} {rest sa sb : List Stmt} {g h : SF}
/-- a list or a tuple -/
def iSq (K : PySem.W.Frag) (tl : TE) : TI := fun σ H R => tl σ H fun x H1 => ∃ a, x = .ref a ∧ (((∃ xs, SqL K H1 a xs) ∧ R (Itl K a) H1) ∨ ((∃ xs, SqT K H1 a xs) ∧ R (Itt K a) H1))
theorem pi_sq {l : Expr} {tl : TE} (hl : PE X l tl) : PI X tg l (iSq X.K tl) := by
  refine ⟨fun pins s σ H R I h => ?_⟩
  refine thn (hl.run pins s σ H _ I h) fun v s1 ⟨x, H1, I1, r1, q1⟩ => ?_
  obtain ⟨a, e, q⟩ := q1
  subst e
  cases r1
  rcases q with ⟨⟨xs, hq⟩, q⟩ | ⟨⟨xs, hq⟩, q⟩
  · obtain ⟨its, rv, p, hz⟩ := I1.list hq
    refine wpAny_pyIter_list p.isList ?_
    refine ⟨s1.heap.objs.size, [s1.heap.objs.size], _, _, H1, rfl, I1.kept (t' := s1.toks) fun b o e => Heap.get?_push_of_some _ e, turn_list a _, ⟨_, Heap.get?_push_size _ rfl, rfl, rfl⟩, fun b hb => ?_, q⟩
    have e : b = s1.heap.objs.size := by simpa using hb
    subst e
    exact I1.fpOk (Nat.le_refl _) (I1.hok.fresh (Nat.le_refl _))
  · obtain ⟨its, rv, p, hz⟩ := I1.tuple hq
    refine wpAny_pyIter_tuple (show s1.heap.IsTuple a its.toArray from p) ?_
    refine ⟨s1.heap.objs.size, [s1.heap.objs.size], _, _, H1, rfl, I1.kept (t' := s1.toks) fun b o e => Heap.get?_push_of_some _ e, turn_tuple a _, ⟨_, Heap.get?_push_size _ rfl, rfl, rfl⟩, fun b hb => ?_, q⟩
    have e : b = s1.heap.objs.size := by simpa using hb
    subst e
    exact I1.fpOk (Nat.le_refl _) (I1.hok.fresh (Nat.le_refl _))
theorem itl_ok {k : Kx} {p : List Addr} {H : Hp} {a : Addr} {ds : List D} {gs : Gd} (h : ∀ p' M' H', p <+: p' → Le H H' → Rl k.K k.mg p' M' H' → Still gs M' → ∃ vs, Reps k.K p' H' ds vs ∧ SqL k.K H' a vs) : ItOk k p H (ds, gs) (Itl k.K a) := by
  intro n p' M' H' hp hl R S
  obtain ⟨vs, r, s⟩ := h p' M' H' hp hl R S
  refine ⟨fun d e => ?_, fun e => ⟨vs, s, by rw [e, ← reps_len r]; exact Nat.le_refl _⟩⟩
  obtain ⟨v, h1, h2⟩ := reps_get r e
  refine ⟨⟨vs, v, s, h1⟩, fun w H2 y => ?_⟩
  obtain ⟨rfl, y⟩ := y
  have e3 := y vs s
  rw [h1] at e3
  cases e3
  exact ⟨Le.refl _, R, h2⟩
theorem itt_ok {k : Kx} {p : List Addr} {H : Hp} {a : Addr} {ds : List D} {vs : List V} (r0 : Reps k.K p H ds vs) (s0 : SqT k.K H a vs) : ItOk k p H (ds, []) (Itt k.K a) := by
  intro n p' M' H' hp hl R S
  have r := Reps.up hp hl _ r0
  have s := hl.sqT s0
  refine ⟨fun d e => ?_, fun e => ⟨vs, s, by rw [e, ← reps_len r]; exact Nat.le_refl _⟩⟩
  obtain ⟨v, h1, h2⟩ := reps_get r e
  refine ⟨⟨vs, v, s, h1⟩, fun w H2 y => ?_⟩
  obtain ⟨rfl, y⟩ := y
  have e3 := y vs s
  rw [h1] at e3
  cases e3
  exact ⟨Le.refl _, R, h2⟩
/-- what stands behind a list that stands still, a frozen list, a tuple -/
theorem seq_of {k : Kx} {p : List Addr} {M : Hd} {H : Hp} {d : D} {v : V} (R : Rl k.K k.mg p M H) (q : Rep k.K p H d v) : (∀ ds, d = .tup ds → ∃ a vs, v = .ref a ∧ SqT k.K H a vs ∧ Reps k.K p H ds vs) ∧
    (∀ ds, d = .fl ds → ∃ a, v = .ref a ∧ ∀ p' M' H', p <+: p' → Le H H' → Rl k.K k.mg p' M' H' → ∃ vs, Reps k.K p' H' ds vs ∧ SqL k.K H' a vs) ∧
    (∀ i, d = .ref i → ∃ a, v = .ref a ∧ ∀ ds p' M' H', p <+: p' → Le H H' → Rl k.K k.mg p' M' H' → M'[i]? = some (.lst ds) → ∃ vs, Reps k.K p' H' ds vs ∧ SqL k.K H' a vs) := by
  refine ⟨fun ds e => ?_, fun ds e => ?_, fun i e => ?_⟩
  · subst e
    unfold Rep at q
    obtain ⟨a, vs, e1, s, r⟩ := q
    exact ⟨a, vs, e1, s.sq, r⟩
  · subst e
    have q0 := q
    unfold Rep at q
    obtain ⟨a, vs, rfl, s, r⟩ := q
    refine ⟨a, rfl, fun p' M' H' hp hl R' => ?_⟩
    have q' := Rep.up hp hl _ q0
    obtain ⟨a2, vs2, e2, s2, r2⟩ := rep_items (ds := ds) R' q' rfl
    unfold Rep at q'
    obtain ⟨a3, vs3, e3, s3, r3⟩ := q'
    cases e3
    refine ⟨vs3, r3, ?_⟩
    rcases s3 with ⟨o, s3⟩ | s3
    · exact .inl (.inr ⟨o, s3⟩)
    · exact s3 H'
  · subst e
    have q0 := q
    unfold Rep at q
    obtain ⟨a, ha, rfl⟩ := q
    refine ⟨a, rfl, fun ds p' M' H' hp hl R' hm => ?_⟩
    obtain ⟨b, vs, e2, _, s, r⟩ := rep_lst R' (Rep.up hp hl _ q0) hm
    cases e2
    exact ⟨vs, r, SqL.of s⟩
theorem di_seq (he : DE X z W e f) : DI_ X z W tg e (seqI f) := by
  refine (pi_sq he).imp ?_
  rintro σ H Q ⟨p, M, ρ, o, R, L, e, po⟩
  refine gE_bnd R L e po fun d M1 p1 H1 v R1 L1 hl1 hp1 q1 e1 po1 => ?_
  obtain ⟨s1, s2, s3⟩ := seq_of R1 q1
  cases d with
  | tup ds =>
    cases e1
    obtain ⟨a, vs, rfl, s, r⟩ := s1 _ rfl
    exact ⟨a, rfl, .inr ⟨⟨vs, s⟩, po1.ok R1 (itt_ok r s)⟩⟩
  | fl ds =>
    cases e1
    obtain ⟨a, rfl, s⟩ := s2 _ rfl
    obtain ⟨vs, _, s'⟩ := s p1 M1 H1 (List.prefix_refl _) (Le.refl _) R1
    exact ⟨a, rfl, .inl ⟨⟨vs, s'⟩, po1.ok R1 (itl_ok fun p' M' H' hp hl R' _ => s p' M' H' hp hl R')⟩⟩
  | ref i =>
    dsimp only at e1
    split at e1
    · rename_i ds ho
      cases e1
      obtain ⟨a, rfl, s⟩ := s3 _ rfl
      obtain ⟨vs, _, s'⟩ := s ds p1 M1 H1 (List.prefix_refl _) (Le.refl _) R1 ho
      exact ⟨a, rfl, .inl ⟨⟨vs, s'⟩, po1.ok R1 (itl_ok fun p' M' H' hp hl R' S => s ds p' M' H' hp hl R' (S (i, ds) List.mem_cons_self))⟩⟩
    · cases e1
  | _ => cases e1
theorem ints_at (lo : Int) (n i : Nat) : (intsD lo n)[i]? = if i < n then some (.int (lo + (i : Int))) else none := by
  unfold intsD
  rw [List.getElem?_map]
  by_cases h : i < n
  · rw [List.getElem?_range h, if_pos h]; rfl
  · rw [List.getElem?_eq_none (by simpa using h), if_neg h]; rfl
theorem ints_len (lo : Int) (n : Nat) : (intsD lo n).length = n := by unfold intsD; simp
theorem itr_ok {k : Kx} {p : List Addr} {H : Hp} {lo : Int} {n : Nat} : ItOk k p H (intsD lo n, []) (Itr lo n) := by
  intro i p' M' H' hp hl R S
  refine ⟨fun d e => ?_, fun e => by rw [e, ints_len]; exact Nat.le_refl _⟩
  rw [ints_at] at e
  split at e
  · rename_i hi
    cases e
    refine ⟨hi, fun v H2 y => ?_⟩
    obtain ⟨rfl, rfl⟩ := y
    exact ⟨Le.refl _, R, rep_int⟩
  · cases e
theorem di_rng1 {p' : Pos} (he : DE X z W e f) (hm : X.mg "range" = none) (hg : Gl X "range" := by rfl) (hs : starEach [e] X.env = [(false, eval e X.env)] := by rfl) : DI_ X z W tg (.Call (.Name "range" p') [e] [] pos) (rng1 f) := by
  refine (pi_range1 hg hm (pa_cons he pa_nil hs) hs).imp ?_
  rintro σ H Q ⟨p, M, ρ, o, R, L, e, po⟩
  refine gE_bnd R L e po fun d M1 p1 H1 v R1 L1 hl1 hp1 q1 e1 po1 => ?_
  cases d with
  | int n =>
    dsimp only at e1
    split at e1
    · rename_i hn
      cases e1
      unfold Rep at q1
      subst q1
      exact ⟨n, rfl, hn.1, hn.2, po1.ok R1 itr_ok⟩
    · cases e1
  | _ => cases e1
theorem di_rng2 {p' : Pos} (ha : DE X z W a fa) (hb : DE X z W b fb) (hm : X.mg "range" = none) (hg : Gl X "range" := by rfl) (hs : starEach [a, b] X.env = [(false, eval a X.env), (false, eval b X.env)] := by rfl) (hs2 : starEach [b] X.env = [(false, eval b X.env)] := by rfl) : DI_ X z W tg (.Call (.Name "range" p') [a, b] [] pos) (rng2 fa fb) := by
  refine (pi_range2 hg hm (pa_cons ha (pa_cons hb pa_nil hs2) (by rw [hs, hs2])) hs hs2).imp ?_
  rintro σ H Q ⟨p, M, ρ, o, R, L, e, po⟩
  refine gE_bnd R L e po fun d M1 p1 H1 v R1 L1 hl1 hp1 q1 e1 po1 => ?_
  refine gE_bnd R1 L1 e1 po1 fun d2 M2 p2 H2 v2 R2 L2 hl2 hp2 q2 e2 po2 => ?_
  cases d with
  | int i =>
    cases d2 with
    | int n =>
      dsimp only at e2
      split at e2
      · rename_i hn
        cases e2
        unfold Rep at q1 q2
        subst q1 q2
        exact ⟨i, n, rfl, ⟨hn.1.1, hn.1.2, hn.2.1, hn.2.2⟩, po2.ok R2 itr_ok⟩
      · cases e2
    | _ => cases e2
  | _ => cases e2

/-! ### for -/
theorem ds_for {it : IF} {tt : Tg} (hp : PassesOwn (model X.prog X.w) X.A X.env X.xe) (hc : X.calm = true) (hi : DI_ X z W tg e it) (hg : DG X z tg tt) (hb : DSs X z W sa g) (hs : ∀ x, foldedSetIterable e X.env x = pure x := by intro _; rfl) :
    DS X z W (.For tg e sa [] pos) (sFor it tt g) := by
  refine (ps_for hp hc hi hg hb hs).imp ?_
  rintro Dn σ H ⟨p, M, ρ, o, R, L, e, po⟩
  refine gE_exB R L e po fun x M1 p1 H1 J R1 L1 hl1 hp1 q1 e1 po1 => ?_
  obtain ⟨ds, gs⟩ := x
  refine ⟨fun i m σ' H' => m = ds.length - i ∧ i ≤ ds.length ∧ ∃ p' M' r', p1 <+: p' ∧ Le H1 H' ∧ Rl X.K X.mg p' M' H' ∧ Sl X.K z p' H' r' σ' ∧ forL gs tt g (ds.drop i) r' M' = some o ∧ PoS (Cx.k X z) W p' H' o Dn,
    ⟨ds.length, by simp, Nat.zero_le _, p1, M1, ρ, List.prefix_refl _, Le.refl _, R1, L1, e1, po1⟩, ?_⟩
  rintro i m σ' H' ⟨rfl, hi, p', M', r', hp', hl', R', L', e', po'⟩
  by_cases hlt : i < ds.length
  · obtain ⟨d, hd⟩ : ∃ d, ds[i]? = some d := ⟨ds[i], List.getElem?_eq_getElem hlt⟩
    have hdr : ds.drop i = d :: ds.drop (i + 1) := by
      rw [List.drop_eq_getElem_cons hlt]
      congr 1
      rw [List.getElem?_eq_getElem hlt] at hd
      exact Option.some.inj hd
    rw [hdr] at e'
    unfold forL at e'
    split at e'
    · rename_i hS
      obtain ⟨k1, k2⟩ := q1 i p' M' H' hp' hl' R' hS
      obtain ⟨go, yy⟩ := k1 d hd
      refine .inr ⟨go, fun σ2 H2 => ∃ p' M' r', p1 <+: p' ∧ Le H1 H2 ∧ Rl X.K X.mg p' M' H2 ∧ Sl X.K z p' H2 r' σ2 ∧ forL gs tt g (ds.drop (i + 1)) r' M' = some o ∧ PoS (Cx.k X z) W p' H2 o Dn,
        fun σ2 H2 h2 => ⟨ds.length - (i + 1), by omega, rfl, hlt, h2⟩, fun v H2 y => ?_⟩
      obtain ⟨hl2, R2, q2⟩ := yy v H2 y
      split at e'
      · cases e'
      · rename_i r1 hr1
        refine ⟨p', M', r', d, r1, R2, L'.up (List.prefix_refl _) hl2, q2, hr1, fun σ3 L3 _ => ?_⟩
        have po2 := po'.up (List.prefix_refl _) hl2
        cases eg : g r1 M' with
        | none => rw [eg] at e'; exact nomatch e'
        | some x =>
          refine ⟨p', M', r1, x, R2, L3, eg, ?_⟩
          rw [eg] at e'
          obtain ⟨fl, M2⟩ := x
          cases fl with
          | nx r2 => exact fun p3 H3 σ3 hp3 hl3 R3 L3 => ⟨p3, M2, r2, hp'.trans hp3, (hl'.trans hl2).trans hl3, R3, L3, e', po2.up hp3 hl3⟩
          | ct r2 => exact fun p3 H3 σ3 hp3 hl3 R3 L3 => ⟨p3, M2, r2, hp'.trans hp3, (hl'.trans hl2).trans hl3, R3, L3, e', po2.up hp3 hl3⟩
          | bk r2 => cases e'; exact po2
          | rt d => cases e'; exact po2
          | xx c r2 => cases e'; exact po2
    · cases e'
  · have hi' : i = ds.length := by omega
    subst hi'
    rw [List.drop_length] at e'
    unfold forL at e'
    split at e'
    · rename_i hS
      cases e'
      exact .inl ⟨(q1 _ p' M' H' hp' hl' R' hS).2 rfl, po'.nx R' L'⟩
    · cases e'
end

/-! ### comprehensions -/
def DTs (X : Cx) (z : Zx) (W : WX) (es : List Expr) (f : TF) : Prop := PTs X es (gE (Cx.k X z) W rB f)
section
variable {X : Cx} {z : Zx} {W : WX} {e tg elt iter : Expr} {f : EF} {t : TF} {pos : Pos} {ifs : List Expr}
theorem _root_.L2.PTs.imp {X : Cx} {e : List Expr} {t u : TT} (h : PTs X e t) (q : ∀ σ H Q, u σ H Q → t σ H Q) : PTs X e u := ⟨fun pins s σ H Q I k => h.run pins s σ H Q I (q σ H Q k)⟩
theorem dts_nil : DTs X z W [] DI.tYes := by
  refine pts_nil.imp ?_
  rintro σ H Q ⟨p, M, ρ, o, R, L, e, po⟩
  cases e
  exact po.ok R rfl
theorem dts_one (h : DT X z W e t) : DTs X z W [e] t := pts_one h
abbrev W0 : WX := fun _ _ _ _ => False
theorem no_er {K : PySem.W.Frag} {mg : Str → Option Value} {z : Zx} {α β : Type} {Re : List Addr → Hp → α → β → Prop} {p : List Addr} {H : Hp} {σ : L2.St} {d : α} {M : Hd} {Q : β → Hp → Prop} (h : ∀ p' H' v, p <+: p' → Le H H' → Rl K mg p' M H' → Re p' H' d v → Q v H') : PoE ⟨K, mg, z⟩ W0 Re p H σ (.ok d M) Q := h
theorem lc_of {k : Kx} (hz : k.z = none) {it : IF} {tt : Tg} {own : List Nat} (hown : ∀ i ∈ tt.sl, i ∈ own) {σ : L2.St} {H : Hp} {Q : VK} (q : gE k W (rD k) (eLc it tt t f own) σ H Q) :
    tLc (gE k W (ItOk k) it) (gG k tt) (gE k W0 rB t) (gE k W0 (rD k) f) own σ H Q := by
  obtain ⟨p, M, ρ, o, R, L, e, po⟩ := q
  refine gE_bnd R L e po fun x M1 p1 H1 J R1 L1 hl1 hp1 q1 e1 po1 => ?_
  obtain ⟨ds, gs⟩ := x
  intro Dl hD
  split at e1
  · rename_i M2 hM2
    cases e1
    obtain ⟨kK, kmg, kz⟩ := k
    cases hz
    have R2 : Rl kK kmg (p1 ++ [Dl]) (M1 ++ [.lst []]) (upd H1 Dl (.lst [])) := R1.new hD ⟨[], upd_same, reps_nil⟩
    have hD1 : (p1 ++ [Dl])[M1.length]? = some Dl := by rw [List.getElem?_append_right (by rw [R1.len]; omega), R1.len]; simp
    refine ⟨fun i m H' => m = ds.length - i ∧ i ≤ ds.length ∧ ∃ p' M', (p1 ++ [Dl]) <+: p' ∧ Le (upd H1 Dl (.lst [])) H' ∧ Rl kK kmg p' M' H' ∧ lcL gs M1.length tt t f (DI.wip ρ own) (ds.drop i) M' = some M2,
      ⟨ds.length, by simp, Nat.zero_le _, _, _, List.prefix_refl _, Le.refl _, R2, hM2⟩, ?_⟩
    rintro i m H' ⟨rfl, hi, p', M', hp', hl', R', e'⟩
    have hle : Le H1 H' := (Le.new hD).trans hl'
    have hpr : p1 <+: p' := (List.prefix_append p1 [Dl]).trans hp'
    have L' : Sl kK none p' H' (DI.wip ρ own) (wipe σ own) := Sl.wip (L1.up hpr hle) own
    have hat : p'[M1.length]? = some Dl := by
      obtain ⟨t, rfl⟩ := hp'
      rw [List.getElem?_append_left (List.getElem?_eq_some_iff.mp hD1).1]
      exact hD1
    by_cases hlt : i < ds.length
    · obtain ⟨d, hd⟩ : ∃ d, ds[i]? = some d := ⟨ds[i], List.getElem?_eq_getElem hlt⟩
      have hdr : ds.drop i = d :: ds.drop (i + 1) := by
        rw [List.drop_eq_getElem_cons hlt]
        congr 1
        rw [List.getElem?_eq_getElem hlt] at hd
        exact Option.some.inj hd
      rw [hdr] at e'
      unfold lcL at e'
      split at e'
      · rename_i hS
        obtain ⟨k1, k2⟩ := q1 i p' M' H' hpr hle R' hS
        obtain ⟨go, yy⟩ := k1 d hd
        refine .inr ⟨go, fun H2 => ∃ p' M', (p1 ++ [Dl]) <+: p' ∧ Le (upd H1 Dl (.lst [])) H2 ∧ Rl kK kmg p' M' H2 ∧ lcL gs M1.length tt t f (DI.wip ρ own) (ds.drop (i + 1)) M' = some M2,
          fun H2 h2 => ⟨ds.length - (i + 1), by omega, rfl, hlt, h2⟩, fun v H2 y => ?_⟩
        obtain ⟨hl2, R2, q2⟩ := yy v H2 y
        split at e'
        · cases e'
        · rename_i r1 hr1
          refine ⟨p', M', DI.wip ρ own, d, r1, R2, L'.up (List.prefix_refl _) hl2, q2, hr1, fun σ3 L3 hw => ?_⟩
          refine ⟨by rw [hw own hown, wipe_wipe], ?_⟩
          cases et : t r1 M' with
          | none => rw [et] at e'; exact nomatch e'
          | some x =>
            rw [et] at e'
            cases x with
            | er c M3 => exact nomatch e'
            | ok bb M3 =>
              refine ⟨p', M', r1, _, R2, L3, et, fun p3 H3 v3 hp3 hl3 R3 e3 => ?_⟩
              cases e3
              cases bb with
              | false => exact ⟨p3, M3, hp'.trans hp3, (hl'.trans hl2).trans hl3, R3, e'⟩
              | true =>
                rw [if_pos rfl]
                dsimp only at e'
                cases ef : f r1 M3 with
                | none => rw [ef] at e'; exact nomatch e'
                | some x4 =>
                  rw [ef] at e'
                  cases x4 with
                  | er c M4 => exact nomatch e'
                  | ok d4 M4 =>
                    refine ⟨p3, M3, r1, _, R3, L3.up hp3 hl3, ef, fun p4 H4 v4 hp4 hl4 R4 q4 => ?_⟩
                    dsimp only at e'
                    split at e'
                    · rename_i acc hacc
                      split at e'
                      · rename_i hlen
                        have hat4 : p4[M1.length]? = some Dl := by
                          obtain ⟨t, rfl⟩ := hp3.trans hp4
                          rw [List.getElem?_append_left (List.getElem?_eq_some_iff.mp hat).1]
                          exact hat
                        obtain ⟨b, hb, vs, s, r⟩ := R4.ob _ _ hacc
                        rw [hat4] at hb
                        cases hb
                        obtain ⟨R5, hl5⟩ := R4.put (u := .lst (vs ++ [v4])) (o := .lst (acc ++ [d4])) hat4 fun hl => ⟨_, upd_same, Reps.up (List.prefix_refl _) hl _ (reps_app r (reps_cons q4 reps_nil))⟩
                        exact ⟨vs, s, by rw [← reps_len r]; exact line_lt hlen, p4, _, hp'.trans (hp3.trans hp4), (((hl'.trans hl2).trans hl3).trans hl4).trans hl5, R5, e'⟩
                      · cases e'
                    · cases e'
      · cases e'
    · have hi' : i = ds.length := by omega
      subst hi'
      rw [List.drop_length] at e'
      unfold lcL at e'
      split at e'
      · rename_i hS
        have stop := (q1 _ p' M' H' hpr hle R' hS).2 rfl
        cases e'
        refine .inl ⟨stop, ?_⟩
        exact po1 p' H' _ hpr hle R' (rep_ref hat)
      · cases e'
  · cases e1
theorem de_lc {scope : Scope} {own : List (Str × Nat)} {it : IF} {tt : Tg} (hc : X.calm = true) (hN : X.N.Nodup) (hi : DI_ X none W tg iter it) (ok : BlkOk X.N X.env.scope scope own) (hown : ∀ i ∈ tt.sl, i ∈ own.map (·.2))
    (hg : ∀ (s : Shared) (H : Hp) (C : Addr) (cl : List (Str × Addr)) (fp : List Addr), DG (X.blk s H scope (compEnvC scope cl C X.env) fp) none tg tt)
    (ht : ∀ (s : Shared) (H : Hp) (C : Addr) (cl : List (Str × Addr)) (fp : List Addr), DTs (X.blk s H scope (compEnvC scope cl C X.env) fp) none W0 ifs t)
    (he : ∀ (s : Shared) (H : Hp) (C : Addr) (cl : List (Str × Addr)) (fp : List Addr), DE (X.blk s H scope (compEnvC scope cl C X.env) fp) none W0 elt f) (hs : ∀ x, foldedSetIterable iter X.env x = pure x := by intro _; rfl) :
    DE X none W (.ListComp elt [⟨tg, iter, ifs, 0⟩] scope pos) (eLc it tt t f (own.map (·.2))) :=
  (pe_lc (g := gG (Cx.k X none) tt) (tt := gE (Cx.k X none) W0 rB t) (te := gE (Cx.k X none) W0 (rD (Cx.k X none)) f) hc hN hi ok hg ht he hs).imp fun _ _ _ q => lc_of rfl hown q
/-- y = [..] on one line, y a local -/
theorem ds_setLc {i : Nat} {y : Str} {py spos : Pos} {scope : Scope} {own : List (Str × Nat)} {it : IF} {tt : Tg} (hc : X.calm = true) (hN : X.N.Nodup) (hy : X.N[i]? = some y) (hyl : X.env.scope.names.lookup y = some .local)
    (hsw : swapsWith (.ListComp elt [⟨tg, iter, ifs, 0⟩] scope pos) (some (.Name y py)) spos.line X.env = pure true) (hi : DI_ X none W tg iter it) (ok : BlkOk X.N X.env.scope scope own) (hown : ∀ i ∈ tt.sl, i ∈ own.map (·.2))
    (hg : ∀ (s : Shared) (H : Hp) (C : Addr) (cl : List (Str × Addr)) (fp : List Addr), DG (X.blk s H scope (compEnvC scope cl C X.env) fp) none tg tt)
    (ht : ∀ (s : Shared) (H : Hp) (C : Addr) (cl : List (Str × Addr)) (fp : List Addr), DTs (X.blk s H scope (compEnvC scope cl C X.env) fp) none W0 ifs t)
    (he : ∀ (s : Shared) (H : Hp) (C : Addr) (cl : List (Str × Addr)) (fp : List Addr), DE (X.blk s H scope (compEnvC scope cl C X.env) fp) none W0 elt f) (hs : ∀ x, foldedSetIterable iter X.env x = pure x := by intro _; rfl) :
    DS X none W (.Assign [.Name y py] (.ListComp elt [⟨tg, iter, ifs, 0⟩] scope pos) spos) (sAsg i (eLc it tt t f (own.map (·.2)))) := by
  refine (ps_setLc (g := gG (Cx.k X none) tt) (tt := gE (Cx.k X none) W0 rB t) (te := gE (Cx.k X none) W0 (rD (Cx.k X none)) f) hc hN hy hyl hsw hi ok hg ht he hs).imp ?_
  rintro Dn σ H ⟨p, M, ρ, o, R, L, e, po⟩
  refine lc_of (k := Cx.k X none) rfl hown ?_
  refine gE_exB R L e po fun d M1 p1 H1 v R1 L1 hl1 hp1 q1 e1 po1 => ?_
  cases e1
  exact po1.nx R1 (L1.set i q1)
end

/-! ### a def -/
theorem sl_start {K : PySem.W.Frag} {p : List Addr} {H : Hp} {N : List Str} {ds : List D} {vs : List V} (h : Reps K p H ds vs) : Sl K none p H (startD N.length ds) (L2.start N vs) := by
  have hl := reps_len h
  refine ⟨?_, fun i d e => ?_, fun a i e => nomatch e⟩
  · unfold startD L2.start
    rw [List.length_append, List.length_append, List.length_map, List.length_map, List.length_replicate, List.length_replicate, hl]
  · unfold startD at e
    by_cases hi : i < ds.length
    · rw [List.getElem?_append_left (by simpa using hi), List.getElem?_map] at e
      cases q : ds[i]? with
      | none => rw [q] at e; cases e
      | some x =>
        rw [q] at e
        cases e
        obtain ⟨v, h1, h2⟩ := reps_get h q
        refine ⟨v, ?_, h2⟩
        unfold L2.start
        rw [List.getElem?_append_left (by rw [List.length_map, ← hl]; exact hi), List.getElem?_map, h1]
        rfl
    · rw [List.getElem?_append_right (by simpa using hi), List.getElem?_replicate] at e
      split at e <;> cases e
theorem mir_len {n k : Nat} {g : SF} {ds : List D} {M : Hd} {o : Rs D} (e : mir n k g ds M = some o) : ds.length = k := by
  unfold mir at e
  split at e
  · assumption
  · cases e
theorem fn_mk {P : Program} {w : World} {K : PySem.W.Frag} {mg : Str → Option Value} {base : Heap} {x qual : Str} {params : Arguments} {body : List Stmt} {scope : Scope} {f : Addr} {fd : FuncData} {N ps : List Str} {k : Nat} {g : SF}
    (F : FunD K x qual params body scope [] [] f fd) (S : FnScope N ps scope)
    (h : ∀ (cdv : Value) (A : Around) (outer : List Env) (s : Shared) (H : Hp) (E : XK), Room k (A.deeper (envOfC qual scope s.heap.objs.size f cdv)) → DSs (cxOf (L2.CX P w) P w K mg base N qual scope f cdv A outer s H E) none (fun cls d _ H => E cls d H) body g) :
    FnOk P w K mg base (L2.CX P w) (k + 1) f fd ps (spD K mg ps.length (mir N.length ps.length g)) := by
  refine F.ok S (fun vs H Q E hsp => ?_) fun cdv A outer s H vs Q E hr hsp => ⟨_, h cdv A outer s H E hr, ?_⟩
  · obtain ⟨p, M, ds, o, R, L, hn, e, po⟩ := hsp
    rw [← reps_len L]
    exact hn
  · obtain ⟨p, M, ds, o, R, L, hn, e, po⟩ := hsp
    unfold mir at e
    rw [if_pos hn] at e
    cases eg : g (startD N.length ds) M with
    | none => rw [eg] at e; exact nomatch e
    | some x =>
      refine ⟨p, M, startD N.length ds, x, R, sl_start L, eg, ?_⟩
      rw [eg] at e
      obtain ⟨fl, M1⟩ := x
      cases fl with
      | nx r =>
        cases e
        exact fun p' H' σ' hp hl R' L' => po p' H' .non hp hl R' rep_non
      | rt d =>
        cases e
        exact fun p' H' v hp hl R' q => po p' H' v hp hl R' q
      | xx c r =>
        cases e
        exact fun p' H' σ' C hp hl R' L' hC => po p' H' C hp hl R' hC
      | bk r => exact nomatch e
      | ct r => exact nomatch e
theorem dfn_of {P : Program} {w : World} {K : PySem.W.Frag} {mg : Str → Option Value} {base : Heap} {x qual : Str} {params : Arguments} {body : List Stmt} {scope : Scope} {f : Addr} {fd : FuncData} {N ps : List Str} {k : Nat} {g : SF}
    (F : FunD K x qual params body scope [] [] f fd) (hmg : mg x = some (.ref f)) (hb : Binds K fd ps []) (h : FnOk P w K mg base (L2.CX P w) k f fd ps (spD K mg ps.length (mir N.length ps.length g))) : Dfn P w K mg base k x ps.length (mir N.length ps.length g) :=
  ⟨fun ds M o e => mir_len e, f, fd, ps, hmg, F.kp, hb, h⟩
/-- nothing leaves -/
theorem calm_of {P : Program} {w : World} {K : PySem.W.Frag} {mg : Str → Option Value} {base : Heap} {k : Nat} {f : Addr} {fd : FuncData} {ps : List Str} {sp : Sp} (h : FnOk P w K mg base (L2.CX P w) k f fd ps sp) : FnOk P w K mg base CX0 k f fd ps (fun vs H Q _ => sp vs H Q fun _ _ _ => False) := by
  refine ⟨fun vs H Q E hs => h.len vs H Q _ hs, fun A outer s H args us vs Q E hr he hb hv hs => ?_⟩
  refine codeAny_mono (h.run A outer s H args us vs Q _ hr he hb hv hs) fun r s' hq => ?_
  cases r with
  | error e =>
    obtain ⟨_, _, _, _, _, _, _, _, _, _, _, _, z⟩ := hq
    exact z.elim
  | ok fl => cases fl <;> exact hq
/-- the law's end -/
theorem sp_law {K : PySem.W.Frag} {mg : Str → Option Value} {m : List D → Hd → Option (Rs D)} {n : Nat} (h : ∀ ns : List Int, ns.length ≤ n → ∃ M, m [.fl (ns.map D.int)] [] = some (.ok (.bl true) M)) (H : Hp) (a : Addr) (ns : List Int) (hn : ns.length ≤ n) (hO : Only H) (hS : SqL K H a (ns.map V.int)) :
    spD K mg 1 m [.ref a] H (fun v _ => v = .bl true) fun _ _ _ => False := by
  obtain ⟨M, e⟩ := h ns hn
  have rr : ∀ ns : List Int, Reps K [] H (ns.map D.int) (ns.map V.int) := fun ns => by
    induction ns with
    | nil => exact reps_nil
    | cons i ns ih => exact reps_cons rep_int ih
  refine ⟨[], [], [.fl (ns.map D.int)], _, ⟨rfl, List.nodup_nil, fun i o e => by simp at e⟩, reps_cons ?_ reps_nil, rfl, e, fun p' H' v _ _ _ q => ?_⟩
  · unfold Rep
    refine ⟨a, _, rfl, ?_, rr ns⟩
    rcases hS with (hS | ⟨o, hS⟩) | hS
    · rcases hO a with z | ⟨o, xs, z⟩
      · rw [z] at hS; cases hS
      · rw [z] at hS; cases hS
    · exact .inl ⟨o, hS⟩
    · exact .inr fun H' => .inr hS
  · unfold Rep at q
    exact q
end DI

end

section
set_option Elab.async false
set_option linter.all false
set_option maxRecDepth 100000
set_option maxHeartbeats 4000000
/-! DI6: more built-ins. -/
namespace DI
open PySem PySem.Spec PyProof.Rows L2
/-- int(..) -/
def intG : D → Hd → Option (Rs D) := fun d M => match d with
  | .int i => some (.ok (.int i) M)
  | .bl b => some (.ok (.int (if b then 1 else 0)) M)
  | _ => none
section
variable {X : Cx} {z : Zx} {W : WX} {a b c e : Expr} {fa fb fc f : EF} {pos : Pos} {es : List Expr} {g : AF}
theorem de_int1 {p' : Pos} (ha : DE X z W e f) (hm : X.mg "int" = none) (hg : Gl X "int" := by rfl) (he : starEach [e] X.env = (false, eval e X.env) :: starEach [] X.env := by rfl) : DE X z W (.Call (.Name "int" p') [e] [] pos) (eUn intG f) := by
  refine (pe_callTy call_int1 hg hm PyProof.Rows.boot_int (pa_cons ha pa_nil he) (he := he)).imp ?_
  rintro σ H Q ⟨p, M, ρ, o, R, L, e, po⟩
  refine gE_bnd R L e po fun d M1 p1 H1 v R1 L1 hl1 hp1 q1 e1 po1 => ?_
  cases d with
  | int i =>
    cases e1
    unfold Rep at q1
    exact .inl ⟨i, by rw [q1], po1.ok R1 rep_int⟩
  | bl i =>
    cases e1
    unfold Rep at q1
    exact .inr ⟨i, by rw [q1], po1.ok R1 rep_int⟩
  | _ => cases e1
end
end DI
namespace DI
open PySem PySem.Spec PyProof.Rows L2
theorem look_rel {g : Str → NameKind → NameKind} {x : Str} : ∀ {l : List (Str × NameKind)}, l.lookup x = some .cell ∨ l.lookup x = some .free → (∀ n, g n .cell = .cell) → (∀ n, g n .free = .cell ∨ g n .free = .free) →
    (l.map fun p => (p.1, g p.1 p.2)).lookup x = some .cell ∨ (l.map fun p => (p.1, g p.1 p.2)).lookup x = some .free
  | [], h, _, _ => by simp at h
  | (n, k) :: l, h, h1, h2 => by
    rw [List.map_cons, List.lookup_cons]
    rw [List.lookup_cons] at h
    by_cases e : x == n
    · rw [e] at h ⊢
      dsimp only at h ⊢
      rcases h with h | h
      · cases h; rw [h1]; exact .inl rfl
      · cases h; rcases h2 n with q | q <;> rw [q] <;> simp
    · rw [Bool.not_eq_true] at e
      rw [e] at h ⊢
      exact look_rel h h1 h2
theorem blkOk_in {N : List Str} {s scope : Scope} {own : List (Str × Nat)} {cl : List (Str × Addr)} {C : Addr} {e : Env} (h : blkC N s scope own = true) : BlkOk N (compEnvC s cl C e).scope scope own := by
  let o := blkOk_by h
  refine ⟨o.kind, o.uniq, o.ix, fun y hy hf => ?_, o.own⟩
  have key := look_rel (x := y.1) (g := fun n k => if (k == NameKind.free && e.scope.kind == ScopeKind.function && e.kindOf n == some NameKind.cell) = true then NameKind.cell else k) (o.free y hy hf) (fun n => rfl) (fun n => by
    split
    · exact .inl rfl
    · exact .inr rfl)
  have eq : (compEnvC s cl C e).scope.names = s.names.map fun p => (p.1, if (p.2 == NameKind.free && e.scope.kind == ScopeKind.function && e.kindOf p.1 == some NameKind.cell) = true then NameKind.cell else p.2) := by
    unfold compEnvC relabel
    dsimp only
    apply List.map_congr_left
    rintro ⟨n, k⟩ _
    dsimp only
    split <;> rfl
  rw [eq]
  exact key
end DI

end

section
set_option Elab.async false
set_option linter.all false
set_option maxRecDepth 100000
set_option maxHeartbeats 4000000
/-! DI7: zip and enumerate of lists and tuples, mixed as they come. -/
namespace DI
open PySem PySem.Spec PyProof.Rows L2

/-- k: a tuple, else a list -/
def SqK (K : PySem.W.Frag) (k : Bool) (H : Hp) (a : Addr) (xs : List V) : Prop := match k with
  | true => SqT K H a xs
  | false => SqL K H a xs
def ItK (k : Bool) (h : Heap) (it l : Addr) (i : Nat) : Prop := match k with
  | true => h.IsTupleIter it l i
  | false => h.IsListIter it l i
def SeK (k : Bool) (h : Heap) (l : Addr) (xs : Array Value) : Prop := match k with
  | true => h.IsTuple l xs
  | false => h.IsList l xs
def itO (k : Bool) (l : Addr) : Obj := { cls := .type (match k with | true => "tuple_iterator" | false => "list_iterator"), data := .fields #[.ref l, .int 0 0] }
theorem drK {prog : Program} {w : World} {A : Around} (k : Bool) (hh : A.handled = none) {it l : Addr} (hne : l ≠ it) (xs : Array Value) :
    Draws prog w A it [it, l] xs.size (fun i v => xs[i]? = some v) (fun i h => ItK k h it l i ∧ SeK k h l xs) := by
  cases k
  · exact Draws.list hh it l hne xs
  · exact Draws.tuple hh it l hne xs
theorem begK (k : Bool) (l : Addr) (xs : Array Value) : Begins (.ref l) (itO k l) fun h => SeK k h l xs := by
  cases k
  · exact begins_list l xs
  · exact begins_tuple l xs
theorem itO_at {k : Bool} {h : Heap} {it l : Addr} (e : h.get? it = some (itO k l)) : ItK k h it l 0 := by
  cases k
  · exact ⟨_, e, rfl, rfl⟩
  · exact ⟨_, e, rfl, rfl⟩
theorem ItK.keep {k : Bool} {h h' : Heap} {it l : Addr} {i : Nat} (e : ItK k h it l i) (q : ∀ o, h.get? it = some o → h'.get? it = some o) : ItK k h' it l i := by
  cases k
  · exact Heap.IsListIter.at e q
  · exact Heap.IsTupleIter.at e q
theorem ItK.obj {k : Bool} {h : Heap} {it l : Addr} {i : Nat} (e : ItK k h it l i) : ∃ o, h.get? it = some o ∧ ∀ v, o.data ≠ .cell v := by
  cases k <;> (obtain ⟨o, a, _, d⟩ := e; exact ⟨o, a, fun v q => by rw [d] at q; cases q⟩)
section
variable {X : Cx} {pins : List (Addr × Obj)} {σ : L2.St} {H : Hp} {s : Shared}
theorem sqK {k : Bool} {a : Addr} {xs : List V} (I : Inv X pins σ H s) (h : SqK X.K k H a xs) : (∃ us : List Value, Vals xs us ∧ SeK k s.heap a us.toArray) ∧ @LT.lt Nat _ a s.heap.objs.size ∧ ∀ ys, SqK X.K k H a ys → ys = xs := by
  cases k
  · obtain ⟨us, rv, p, _⟩ := I.list h
    exact ⟨⟨us, rv, p.isList⟩, p.lt, fun ys q => I.list_inj q h⟩
  · obtain ⟨us, rv, p, _⟩ := I.tuple h
    exact ⟨⟨us, rv, p⟩, by obtain ⟨o, e, _⟩ := id p; exact Heap.lt_size e, fun ys q => I.tuple_inj q h⟩
end
theorem a_ne {a b : Nat} (h : a < b ∨ b < a) : @Ne Addr a b := fun e => by
  have e : @Eq Nat a b := e
  omega
theorem a_nm {a b c : Nat} (h : (a < b ∨ b < a) ∧ (a < c ∨ c < a)) : @Not (@Membership.mem Addr (List Addr) _ [b, c] a) := fun e => by
  rcases List.mem_cons.mp e with e | e
  · exact a_ne h.1 e
  · rw [List.mem_singleton] at e
    exact a_ne h.2 e
/-! ### zip -/
def Itz2 (K : PySem.W.Frag) (k1 k2 : Bool) (a b : Addr) : It :=
  ⟨fun i H => ∃ (xs ys : List V) (x y : V), SqK K k1 H a xs ∧ SqK K k2 H b ys ∧ xs[i]? = some x ∧ ys[i]? = some y,
    fun i H v H' => ∃ T x y us, v = .ref T ∧ H T = none ∧ H' = upd H T (.frz (tO us) (.tup [x, y])) ∧ (∀ xs, SqK K k1 H a xs → xs[i]? = some x) ∧ ∀ ys, SqK K k2 H b ys → ys[i]? = some y,
    fun i H => ∃ xs ys : List V, SqK K k1 H a xs ∧ SqK K k2 H b ys ∧ (xs.length = i ∧ i ≤ ys.length ∨ ys.length = i ∧ i ≤ xs.length)⟩
theorem zip_cells {z TI TO i1 i2 c : Addr} (h : c ∈ [z, TI, TO, i1, i2]) : @Eq Nat c z ∨ @Eq Nat c TI ∨ @Eq Nat c TO ∨ @Eq Nat c i1 ∨ @Eq Nat c i2 := by simpa using h
theorem not_cell {z TI TO i1 i2 c : Addr} (h : c ∉ [z, TI, TO, i1, i2]) : c ≠ z ∧ c ≠ TO ∧ c ≠ i1 ∧ c ≠ i2 :=
  ⟨fun q => h (by simp [q]), fun q => h (by simp [q]), fun q => h (by simp [q]), fun q => h (by simp [q])⟩
theorem turn_zip2 {P : Program} {w : World} {K : PySem.W.Frag} {elts : List Expr} {kk : Nat} {tpos : Pos} {k1 k2 : Bool} {a b z TI TO i1 i2 : Addr} (S : ZipSep2 z TI TO i1 i2 [i1, a] [i2, b]) (ha : a ≠ i1) (hb : b ≠ i2) :
    Turn P w K (.Tuple elts kk tpos) (Itz2 K k1 k2 a b) [z, TI, TO, i1, i2] z (fun i h => IsZip h z TI TO .none ∧ IsTupOf2 h TI (.ref i1) (.ref i2) ∧ (∃ x y, IsTupOf2 h TO x y) ∧ ItK k1 h i1 a i ∧ ItK k2 h i2 b i) where
  mem := List.mem_cons_self
  obj := by
    rintro i h ⟨hz, hTI, ⟨x, y, hTO⟩, h1, h2⟩ c hc
    rcases zip_cells hc with rfl | rfl | rfl | rfl | rfl
    · exact ⟨_, hz, fun v q => nomatch q⟩
    · exact ⟨_, hTI, fun v q => nomatch q⟩
    · exact ⟨_, hTO, fun v q => nomatch q⟩
    · exact h1.obj
    · exact h2.obj
  keep := by
    rintro i h h' ⟨hz, hTI, ⟨x, y, hTO⟩, h1, h2⟩ k
    exact ⟨k z (by simp) _ hz, k TI (by simp) _ hTI, ⟨x, y, k TO (by simp) _ hTO⟩, h1.keep (k i1 (by simp)), h2.keep (k i2 (by simp))⟩
  item := by
    rintro X rfl rfl rfl hc i pins s σ H E I hf ⟨hz, hTI, ⟨x0, y0, hTO⟩, h1, h2⟩ ⟨xs, ys, x, y, hqx, hqy, hx, hy⟩
    obtain ⟨⟨us, rv, p⟩, la, inj1⟩ := sqK I hqx
    obtain ⟨⟨us2, rv2, p2⟩, lb, inj2⟩ := sqK I hqy
    obtain ⟨u, hu, ru⟩ := rv.get hx
    obtain ⟨u2, hu2, ru2⟩ := rv2.get hy
    have hh : X.A.in1.handled = none := I.ok.hd hc
    have lz : z < s.heap.objs.size := Heap.lt_size hz
    refine wpAny_pyNext_zipD2_item S (drK k1 hh ha us.toArray) (drK k2 hh hb us2.toArray) hz hTI hTO ⟨h1, p⟩ ⟨h2, p2⟩ (List.getElem?_eq_some_iff.mp hu).1 (List.getElem?_eq_some_iff.mp hu2).1 ?_
    intro v1 v2 h' tk e1 e2 hz' hTO' st1 st2 hT hsz hk
    have e1 : u = v1 := Option.some.inj (hu.symm.trans (by simpa using e1))
    have e2 : u2 = v2 := Option.some.inj (hu2.symm.trans (by simpa using e2))
    subst e1 e2
    refine ⟨_, rfl, ?_⟩
    apply wpAny_letOwnedTupleGo_zip (s := { s with heap := h', toks := tk }) hz'
    intro h'' hz'' sb
    have hT2 : IsTupOf2 h'' s.heap.objs.size u u2 := (sb.2 _ (Nat.ne_of_gt lz)).trans hT
    have go : ∀ c o, c ∉ [z, TI, TO, i1, i2] → s.heap.get? c = some o → h''.get? c = some o := fun c o hc e => by
      obtain ⟨c1, c2, c3, c4⟩ := not_cell hc
      exact (sb.2 c c1).trans (hk c o c1 c2 c3 c4 e)
    have ok2 : ObjOk X.prog X.w (upd H s.heap.objs.size (.frz (tO [u, u2]) (.tup [x, y]))) h'' s.heap.objs.size (.frz (tO [u, u2]) (.tup [x, y])) := by
      refine ⟨hT2, ?_, [u, u2], .cons ru (.cons ru2 .nil), _, hT2, rfl, _, rfl⟩
      show 2 ≤ sizeLine
      decide
    have I1 := I.turnedNew (t' := tk) (ch := [z, TI, TO, i1, i2]) go hf (Nat.le_refl _) ok2
    refine ⟨.ref s.heap.objs.size, _, I1, rfl, ⟨_, x, y, _, rfl, I.hok.fresh (Nat.le_refl _), rfl, ?_, ?_⟩, ⟨hz'', ?_, ⟨u, u2, ?_⟩, ?_, ?_⟩, ?_⟩
    · intro zs q; rw [inj1 zs q]; exact hx
    · intro zs q; rw [inj2 zs q]; exact hy
    · exact (sb.2 _ S.TIz).trans (hk _ _ S.TIz S.TITO S.TIi1 S.TIi2 hTI)
    · exact (sb.2 _ S.TOz).trans hTO'
    · exact st1.1.keep fun o q => (sb.2 _ S.zi1.symm).trans q
    · exact st2.1.keep fun o q => (sb.2 _ S.zi2.symm).trans q
    · intro c hcm
      have : c ≠ s.heap.objs.size := by
        refine a_ne ?_
        have lt : ∀ {c o}, s.heap.get? c = some o → @LT.lt Nat _ c s.heap.objs.size := fun e => Heap.lt_size e
        have := zip_cells hcm
        obtain ⟨o1, q1, _⟩ := h1.obj
        obtain ⟨o2, q2, _⟩ := h2.obj
        have l00 := lt hz
        have l0 := lt hTI
        have l1 := lt hTO
        have l2 := lt q1
        have l3 := lt q2
        omega
      rw [upd_ne this]
      exact (hf c hcm).1
  done := by
    rintro X rfl rfl rfl hc i pins s σ H E I hf ⟨hz, hTI, ⟨x0, y0, hTO⟩, h1, h2⟩ ⟨xs, ys, hqx, hqy, hend⟩
    obtain ⟨⟨us, rv, p⟩, la, inj1⟩ := sqK I hqx
    obtain ⟨⟨us2, rv2, p2⟩, lb, inj2⟩ := sqK I hqy
    have hh : X.A.in1.handled = none := I.ok.hd hc
    have l1 : us.toArray.size = xs.length := by rw [List.size_toArray]; exact rv.length.symm
    have l2 : us2.toArray.size = ys.length := by rw [List.size_toArray]; exact rv2.length.symm
    refine wpAny_pyNext_zipD2_end S (drK k1 hh ha us.toArray) (drK k2 hh hb us2.toArray) hz hTI hTO ⟨h1, p⟩ ⟨h2, p2⟩ (by omega) (by omega) (by omega) fun h' tk hk => ⟨rfl, ?_⟩
    refine I.turnedL (t' := tk) (ch := [z, TI, TO, i1, i2]) (fun c o hc q => ?_) hf
    obtain ⟨c1, c2, c3, c4⟩ := not_cell hc
    exact hk c o c1 c2 c3 c4 q
  self := by
    rintro A i s Q E ⟨hz, _⟩ h
    exact wpAny_pyIter_zip hz h
def iZip2 (K : PySem.W.Frag) (ta : TA) : TI := fun σ H R => ta σ H fun vs H1 => ∃ a b xs ys k1 k2, vs = [.ref a, .ref b] ∧ SqK K k1 H1 a xs ∧ SqK K k2 H1 b ys ∧ R (Itz2 K k1 k2 a b) H1
theorem pi_zip2 {X : Cx} {e e2 : Expr} {ta : TA} {p pos tpos : Pos} {elts : List Expr} {kk : Nat} (hg : Gl X "zip") (hm : X.mg "zip" = none) (ha : PA X [e, e2] ta)
    (hs : starEach [e, e2] X.env = (false, eval e X.env) :: starEach [e2] X.env := by rfl) (hpl : (backTo pos (starEach [e2] X.env)).any (·.1) = false := by rfl) :
    PI X (.Tuple elts kk tpos) (.Call (.Name "zip" p) [e, e2] [] pos) (iZip2 X.K ta) := by
  refine ⟨fun pins s σ H R I h => Call_ (ld_blt I hg hm PyProof.Rows.boot_zip (PyProof.Rows.callWith_type1 (thn (ha.run pos pins s σ H _ I h) ?_) hs hpl))⟩
  rintro us s1 ⟨_, H1, I1, r1, a, b, xs, ys, k1, k2, rfl, hqx, hqy, q⟩
  obtain ⟨u, u2, rfl, r1, r2⟩ : ∃ u u2, us = [u, u2] ∧ RelV (.ref a) u ∧ RelV (.ref b) u2 := by
    cases r1 with
    | cons r rr =>
      cases rr with
      | cons r' rr =>
        cases rr
        exact ⟨_, _, rfl, r, r'⟩
  cases r1
  cases r2
  obtain ⟨⟨vs, rv, p1⟩, la, _⟩ := sqK I1 hqx
  obtain ⟨⟨vs2, rv2, p2⟩, lb, _⟩ := sqK I1 hqy
  refine zip_begins2 (begK k1 a vs.toArray) (begK k2 b vs2.toArray) p1 p2 fun h' hz hTI hTO h1 h2 hsz hk => wpAny_pyIter_zip hz ?_
  have I2 : Inv X pins σ H1 { s1 with heap := h' } := I1.kept (t' := s1.toks) hk
  have fr : ∀ c, c ∈ [s1.heap.objs.size + 4, s1.heap.objs.size + 2, s1.heap.objs.size + 3, s1.heap.objs.size, s1.heap.objs.size + 1] → FpOk X pins H1 c := fun c hc => by
    have hle : @LE.le Nat _ s1.heap.objs.size c := by
      have := zip_cells hc
      omega
    exact I1.fpOk hle (I1.hok.fresh hle)
  have S : ZipSep2 (s1.heap.objs.size + 4) (s1.heap.objs.size + 2) (s1.heap.objs.size + 3) s1.heap.objs.size (s1.heap.objs.size + 1) [s1.heap.objs.size, a] [s1.heap.objs.size + 1, b] := by
    constructor <;> first | exact List.mem_cons_self | (refine a_ne ?_; omega) | (refine a_nm ?_; omega)
  exact ⟨_, _, _, _, H1, rfl, I2, turn_zip2 S (a_ne (.inl la)) (a_ne (by omega)), ⟨hz, hTI, ⟨_, _, hTO⟩, itO_at h1, itO_at h2⟩, fr, q⟩
/-! ### enumerate -/
def Ite1 (K : PySem.W.Frag) (k : Bool) (a : Addr) : It :=
  ⟨fun i H => ∃ (xs : List V) (x : V), SqK K k H a xs ∧ xs[i]? = some x,
    fun i H v H' => ∃ T x us, v = .ref T ∧ H T = none ∧ H' = upd H T (.frz (tO us) (.tup [.int (i : Nat), x])) ∧ ∀ xs, SqK K k H a xs → xs[i]? = some x,
    fun i H => ∃ xs : List V, SqK K k H a xs ∧ xs.length = i⟩
theorem turn_enum1 {P : Program} {w : World} {K : PySem.W.Frag} {elts : List Expr} {kk : Nat} {tpos : Pos} {k : Bool} {a e it : Addr} (ha : a ≠ it) (he : e ≠ it) (hea : e ≠ a) :
    Turn P w K (.Tuple elts kk tpos) (Ite1 K k a) [e, it] e (fun i h => (∃ old, IsEnum h e it ((i : Nat) : Int) old) ∧ ItK k h it a i) where
  mem := List.mem_cons_self
  obj := by
    rintro i h ⟨⟨old, hE⟩, h1⟩ c hc
    have hc : c = e ∨ c = it := by simpa using hc
    rcases hc with rfl | rfl
    · exact ⟨_, hE, fun v q => nomatch q⟩
    · exact h1.obj
  keep := by
    rintro i h h' ⟨⟨old, hE⟩, h1⟩ q
    exact ⟨⟨old, q e (by simp) _ hE⟩, h1.keep (q it (by simp))⟩
  item := by
    rintro X rfl rfl rfl hc i pins s σ H E I hf ⟨⟨old, hE⟩, h1⟩ ⟨xs, x, hqx, hx⟩
    obtain ⟨⟨us, rv, p⟩, la, inj1⟩ := sqK I hqx
    obtain ⟨u, hu, ru⟩ := rv.get hx
    have hh : X.A.in1.handled = none := I.ok.hd hc
    have le : @LT.lt Nat _ e s.heap.objs.size := Heap.lt_size hE
    refine wpAny_pyNext_enum_itemD (drK k hh ha us.toArray) hE ⟨h1, p⟩ (List.getElem?_eq_some_iff.mp hu).1 he (by simp [he, hea]) ?_
    intro v1 h' tk e1 hE' st1 hT hsz hk
    have e1 : u = v1 := Option.some.inj (hu.symm.trans (by simpa using e1))
    subst e1
    refine ⟨_, rfl, ?_⟩
    apply wpAny_letOwnedTupleGo_enum (s := { s with heap := h', toks := tk + 1 }) hE'
    intro h'' hE'' sb
    have hT2 : h''.get? s.heap.objs.size = some { cls := .type "tuple", data := .seq #[.int i tk, u] } := (sb.2 _ (a_ne (.inr le))).trans hT
    have go : ∀ c o, c ∉ [e, it] → s.heap.get? c = some o → h''.get? c = some o := fun c o hc q => by
      have c1 : c ≠ e := fun z => hc (by simp [z])
      have c2 : c ≠ it := fun z => hc (by simp [z])
      exact (sb.2 c c1).trans (hk c o c1 c2 q)
    have ok2 : ObjOk X.prog X.w (upd H s.heap.objs.size (.frz (tO [.int i tk, u]) (.tup [.int (i : Nat), x]))) h'' s.heap.objs.size (.frz (tO [.int i tk, u]) (.tup [.int (i : Nat), x])) := by
      refine ⟨hT2, ?_, [.int i tk, u], .cons ⟨_, rfl⟩ (.cons ru .nil), _, hT2, rfl, _, rfl⟩
      show 2 ≤ sizeLine
      decide
    have I1 := I.turnedNew (t' := tk + 1) (ch := [e, it]) go hf (Nat.le_refl _) ok2
    refine ⟨.ref s.heap.objs.size, _, I1, rfl, ⟨_, x, _, rfl, I.hok.fresh (Nat.le_refl _), rfl, ?_⟩, ⟨⟨u, ?_⟩, ?_⟩, ?_⟩
    · intro zs q; rw [inj1 zs q]; exact hx
    · exact hE''
    · exact st1.1.keep fun o q => (sb.2 _ he.symm).trans q
    · intro c hcm
      have : c ≠ s.heap.objs.size := by
        refine a_ne (.inl ?_)
        have hc : c = e ∨ c = it := by simpa using hcm
        obtain ⟨o1, q1, _⟩ := h1.obj
        rcases hc with rfl | rfl
        · exact le
        · exact Heap.lt_size q1
      rw [upd_ne this]
      exact (hf c hcm).1
  done := by
    rintro X rfl rfl rfl hc i pins s σ H E I hf ⟨⟨old, hE⟩, h1⟩ ⟨xs, hqx, hend⟩
    obtain ⟨⟨us, rv, p⟩, la, inj1⟩ := sqK I hqx
    have hh : X.A.in1.handled = none := I.ok.hd hc
    have l1 : us.toArray.size = i := by rw [List.size_toArray, ← hend]; exact rv.length.symm
    subst l1
    refine wpAny_pyNext_enum_endD (drK k hh ha us.toArray) hE ⟨h1, p⟩ fun h' hk => ⟨rfl, ?_⟩
    refine I.turnedL (t' := s.toks) (ch := [e, it]) (fun c o hc q => ?_) hf
    exact hk c o (fun z => hc (by simp [z])) q
  self := by
    rintro A i s Q E ⟨⟨_, hE⟩, _⟩ h
    exact wpAny_pyIter_enum hE h
theorem meets_enum1 {v : Value} {o : Obj} {G : Heap → Prop} (B : Begins v o G) :
    Meets (Builtin.«enumerate.__new__» ⟨[.type "enumerate", v], []⟩) (fun _ R s => G s.heap ∧
      R (.ok (.ret (.ref (s.heap.push o).objs.size))) { s with heap := (s.heap.push o).push { cls := .type "enumerate", data := .fields #[.none, .bool false, .ref s.heap.objs.size, rawInt 0, .none, .none] } }) :=
  .of_wp fun prog w A R s h => by
    obtain ⟨hp, g, d, tk, os⟩ := s
    obtain ⟨b1, h⟩ := h
    have hsub := sub_enumerate
    have st : ∀ {A' : Around} {E : Value → Shared → Prop} {Q : Value → Shared → Prop}, Q (.ref hp.objs.size) ⟨hp.push o, g, d, tk, os⟩ → wpAny (model prog w) A' (pyIter v) Q E ⟨hp, g, d, tk, os⟩ := fun q => B.iter prog w _ _ _ _ b1 q
    wp_walk using st
    refine wpAny_stack_any fun stk => wpAny_pure ?_
    split
    · rename_i c _ _ _ _ _
      cases (c == Value.type "enumerate") <;> (wp_walk using st; exact ⟨_, rfl, h⟩)
    · wp_walk using st
      exact ⟨_, rfl, h⟩
theorem enum_begins1 {prog : Program} {w : World} {A : Around} {E : Value → Shared → Prop} {s : Shared} {v : Value} {o : Obj} {G : Heap → Prop} {Q : Value → Shared → Prop} (B : Begins v o G) (b1 : G s.heap)
    (h : ∀ h', IsEnum h' (s.heap.objs.size + 1) s.heap.objs.size 0 .none → h'.get? s.heap.objs.size = some o → (∀ b o, s.heap.get? b = some o → h'.get? b = some o) → Q (.ref (s.heap.objs.size + 1)) { s with heap := h' }) :
    wpAny (model prog w) A (call (.type "enumerate") [v]) Q E s := by
  refine callType_new F.called_enumerate (by decide) (F.typeCall_enumerate_1 _) (F.newCall_enumerate_1 _) (fun obj => F.args_object_init_2 obj _) F.entry_enumerate_new (meets_enum1 B) ⟨b1, ?_⟩
  have sz : (s.heap.push o).objs.size = s.heap.objs.size + 1 := Heap.size_push ..
  have hE := Heap.get?_push_size (s.heap.push o) (o := { cls := .type "enumerate", data := .fields #[.none, .bool false, .ref s.heap.objs.size, rawInt 0, .none, .none] }) rfl
  show _ ∧ _
  rw [sz] at hE ⊢
  exact ⟨⟨_, hE, rfl⟩, h _ hE (Heap.get?_push_of_some _ (Heap.get?_push_size _ B.free)) fun b o x => Heap.get?_push_of_some _ (Heap.get?_push_of_some _ x)⟩
def iEnum1 (K : PySem.W.Frag) (ta : TA) : TI := fun σ H R => ta σ H fun vs H1 => ∃ a xs k, vs = [.ref a] ∧ SqK K k H1 a xs ∧ R (Ite1 K k a) H1
theorem pi_enum1 {X : Cx} {e : Expr} {ta : TA} {p pos tpos : Pos} {elts : List Expr} {kk : Nat} (hg : Gl X "enumerate") (hm : X.mg "enumerate" = none) (ha : PA X [e] ta) (hs : starEach [e] X.env = [(false, eval e X.env)] := by rfl) :
    PI X (.Tuple elts kk tpos) (.Call (.Name "enumerate" p) [e] [] pos) (iEnum1 X.K ta) := by
  refine ⟨fun pins s σ H R I h => Call_ (ld_blt I hg hm boot_enumerate (PyProof.Rows.callWith_type1 (thn (ha.run pos pins s σ H _ I h) ?_) hs rfl))⟩
  rintro us s1 ⟨_, H1, I1, r1, a, xs, k, rfl, hqx, q⟩
  obtain ⟨u, rfl, ru⟩ : ∃ u, us = [u] ∧ RelV (.ref a) u := by
    cases r1 with
    | cons r rr =>
      cases rr
      exact ⟨_, rfl, r⟩
  cases ru
  obtain ⟨⟨vs, rv, p1⟩, la, _⟩ := sqK I1 hqx
  refine enum_begins1 (begK k a vs.toArray) p1 fun h' hE h1 hk => wpAny_pyIter_enum hE ?_
  have I2 : Inv X pins σ H1 { s1 with heap := h' } := I1.kept (t' := s1.toks) hk
  have fr : ∀ c, c ∈ [s1.heap.objs.size + 1, s1.heap.objs.size] → FpOk X pins H1 c := fun c hc => by
    have hle : @LE.le Nat _ s1.heap.objs.size c := by
      have : @Eq Nat c (s1.heap.objs.size + 1) ∨ @Eq Nat c s1.heap.objs.size := by simpa using hc
      omega
    exact I1.fpOk hle (I1.hok.fresh hle)
  exact ⟨_, _, _, _, H1, rfl, I2, turn_enum1 (a_ne (.inl la)) (a_ne (by omega)) (a_ne (by omega)), ⟨⟨.none, hE⟩, itO_at h1⟩, fr, q⟩
/-! ### of data -/
def sqD (d : D) (M : Hd) : Option (List D × Gd) := match d with
  | .tup ds => some (ds, [])
  | .fl ds => some (ds, [])
  | .ref i => (match M[i]? with
    | some (.lst ds) => some (ds, [(i, ds)])
    | _ => none)
  | _ => none
def pairsD (xs ys : List D) : List D := List.zipWith (fun x y => D.tup [x, y]) xs ys
def numbD (xs : List D) : List D := xs.zipIdx.map fun p => D.tup [.int ((p.2 : Nat) : Int), p.1]
def zip2I (fa fb : EF) : IF := fun r M => bnd (fa r M) fun x M1 => bnd (fb r M1) fun y M2 => match sqD x M2, sqD y M2 with
  | some (xs, g), some (ys, h) => some (.ok (pairsD xs ys, g ++ h) M2)
  | _, _ => none
def enumI (f : EF) : IF := fun r M => bnd (f r M) fun x M1 => match sqD x M1 with
  | some (xs, g) => some (.ok (numbD xs, g) M1)
  | _ => none
theorem still_app {g h : Gd} {M : Hd} : Still (g ++ h) M ↔ Still g M ∧ Still h M := by
  unfold Still
  rw [List.forall_mem_append]
theorem sq_of {k : Kx} {p : List Addr} {M : Hd} {H : Hp} {d : D} {v : V} {ds : List D} {g : Gd} (R : Rl k.K k.mg p M H) (q : Rep k.K p H d v) (e : sqD d M = some (ds, g)) :
    ∃ a b, v = .ref a ∧ Still g M ∧ ∀ p' M' H', p <+: p' → Le H H' → Rl k.K k.mg p' M' H' → Still g M' → ∃ vs, Reps k.K p' H' ds vs ∧ SqK k.K b H' a vs := by
  obtain ⟨s1, s2, s3⟩ := seq_of R q
  cases d with
  | tup es =>
    cases e
    obtain ⟨a, vs, rfl, s, r⟩ := s1 _ rfl
    exact ⟨a, true, rfl, (by simp), fun p' M' H' hp hl R' _ => ⟨vs, Reps.up hp hl _ r, hl.sqT s⟩⟩
  | fl es =>
    cases e
    obtain ⟨a, rfl, s⟩ := s2 _ rfl
    exact ⟨a, false, rfl, (by simp), fun p' M' H' hp hl R' _ => s p' M' H' hp hl R'⟩
  | ref i =>
    unfold sqD at e
    dsimp only at e
    split at e
    · rename_i es ho
      cases e
      obtain ⟨a, rfl, s⟩ := s3 _ rfl
      refine ⟨a, false, rfl, (by simpa using ho), fun p' M' H' hp hl R' S => s ds p' M' H' hp hl R' ?_⟩
      simpa using S
    · cases e
  | _ => cases e
section
variable {X : Cx} {z : Zx} {W : WX} {a b e : Expr} {fa fb f : EF} {pos : Pos}
theorem di_zip {p' tpos : Pos} {elts : List Expr} {kk : Nat} (ha : DE X z W a fa) (hb : DE X z W b fb) (hm : X.mg "zip" = none) (hg : Gl X "zip" := by rfl) (hs : starEach [a, b] X.env = (false, eval a X.env) :: starEach [b] X.env := by rfl) (hs2 : starEach [b] X.env = (false, eval b X.env) :: starEach [] X.env := by rfl)
    (hpl : (backTo pos (starEach [b] X.env)).any (·.1) = false := by rfl) : DI_ X z W (.Tuple elts kk tpos) (.Call (.Name "zip" p') [a, b] [] pos) (zip2I fa fb) := by
  refine (pi_zip2 hg hm (pa_cons ha (pa_cons hb pa_nil hs2) hs) hs hpl).imp ?_
  rintro σ H Q ⟨p, M, ρ, o, R, L, e, po⟩
  refine gE_bnd R L e po fun d M1 p1 H1 v R1 L1 hl1 hp1 q1 e1 po1 => ?_
  refine gE_bnd R1 L1 e1 po1 fun d2 M2 p2 H2 v2 R2 L2 hl2 hp2 q2 e2 po2 => ?_
  split at e2
  · rename_i xs g ys h hx hy
    cases e2
    obtain ⟨a1, b1, rfl, s1, k1⟩ := sq_of R2 (Rep.up hp2 hl2 _ q1) hx
    obtain ⟨a2, b2, rfl, s2, k2⟩ := sq_of R2 q2 hy
    obtain ⟨vs1, _, t1⟩ := k1 p2 M2 H2 (List.prefix_refl _) (Le.refl _) R2 s1
    obtain ⟨vs2, _, t2⟩ := k2 p2 M2 H2 (List.prefix_refl _) (Le.refl _) R2 s2
    refine ⟨a1, a2, vs1, vs2, b1, b2, rfl, t1, t2, po2.ok R2 ?_⟩
    intro n p' M' H' hp hl R' S
    obtain ⟨S1, S2⟩ := still_app.mp S
    obtain ⟨ws1, r1, u1⟩ := k1 p' M' H' hp hl R' S1
    obtain ⟨ws2, r2, u2⟩ := k2 p' M' H' hp hl R' S2
    have l1 := reps_len r1
    have l2 := reps_len r2
    refine ⟨fun d hd => ?_, fun hn => ?_⟩
    · have hd : (pairsD xs ys)[n]? = some d := hd
      unfold pairsD at hd
      rw [List.getElem?_zipWith_eq_some] at hd
      obtain ⟨x, y, hx1, hy1, rfl⟩ := hd
      obtain ⟨x', e1, e2⟩ := reps_get r1 hx1
      obtain ⟨y', e3, e4⟩ := reps_get r2 hy1
      refine ⟨⟨ws1, ws2, x', y', u1, u2, e1, e3⟩, ?_⟩
      rintro v H'' ⟨T, x2, y2, us, rfl, hT, rfl, g1, g2⟩
      have := g1 ws1 u1
      rw [e1] at this
      cases this
      have := g2 ws2 u2
      rw [e3] at this
      cases this
      refine ⟨Le.new hT, R'.other hT, rep_tup StT.made (Reps.up (List.prefix_refl _) (Le.new hT) _ (reps_cons e2 (reps_cons e4 reps_nil)))⟩
    · have hn : n = (pairsD xs ys).length := hn
      unfold pairsD at hn
      rw [List.length_zipWith] at hn
      exact ⟨ws1, ws2, u1, u2, by omega⟩
  · cases e2
theorem di_enum {p' tpos : Pos} {elts : List Expr} {kk : Nat} (he : DE X z W e f) (hm : X.mg "enumerate" = none) (hg : Gl X "enumerate" := by rfl) (hs : starEach [e] X.env = [(false, eval e X.env)] := by rfl) : DI_ X z W (.Tuple elts kk tpos) (.Call (.Name "enumerate" p') [e] [] pos) (enumI f) := by
  refine (pi_enum1 hg hm (pa_cons he pa_nil hs) hs).imp ?_
  rintro σ H Q ⟨p, M, ρ, o, R, L, e, po⟩
  refine gE_bnd R L e po fun d M1 p1 H1 v R1 L1 hl1 hp1 q1 e1 po1 => ?_
  split at e1
  · rename_i xs g hx
    cases e1
    obtain ⟨a1, b1, rfl, s1, k1⟩ := sq_of R1 q1 hx
    obtain ⟨vs1, _, t1⟩ := k1 p1 M1 H1 (List.prefix_refl _) (Le.refl _) R1 s1
    refine ⟨a1, vs1, b1, rfl, t1, po1.ok R1 ?_⟩
    intro n p' M' H' hp hl R' S
    obtain ⟨ws1, r1, u1⟩ := k1 p' M' H' hp hl R' S
    have l1 := reps_len r1
    refine ⟨fun d hd => ?_, fun hn => ?_⟩
    · have hd : (numbD xs)[n]? = some d := hd
      unfold numbD at hd
      rw [List.getElem?_map, List.getElem?_zipIdx, Option.map_map] at hd
      cases hx1 : xs[n]? with
      | none => rw [hx1] at hd; cases hd
      | some x =>
        rw [hx1] at hd
        cases hd
        obtain ⟨x', e1, e2⟩ := reps_get r1 hx1
        refine ⟨⟨ws1, x', u1, e1⟩, ?_⟩
        rintro v H'' ⟨T, x2, us, rfl, hT, rfl, g1⟩
        have := g1 ws1 u1
        rw [e1] at this
        cases this
        refine ⟨Le.new hT, R'.other hT, rep_tup StT.made (Reps.up (List.prefix_refl _) (Le.new hT) _ (reps_cons ?_ (reps_cons e2 reps_nil)))⟩
        rw [Nat.zero_add]
        exact rep_int
    · have hn : n = (numbD xs).length := hn
      unfold numbD at hn
      rw [List.length_map, List.length_zipIdx] at hn
      exact ⟨ws1, u1, by omega⟩
  · cases e1
end
end DI

end

section
set_option Elab.async false
set_option linter.all false
set_option maxRecDepth 100000
set_option maxHeartbeats 4000000
/-! DI8: statements that are never reached; all, any, max; defs that call themselves. -/
namespace DI
open PySem PySem.Spec PyProof.Rows L2

/-- a statement of which nothing is told -/
def sNever : SF := fun _ _ => none
theorem gS_no {X : Cx} {z : Zx} {W : WX} {st : Stmt} : DS X z W st sNever := by
  refine ⟨fun pins s σ H Q I h => ?_⟩
  obtain ⟨p, M, r, o, R, L, e, _⟩ := h
  exact nomatch e
/-- a def of which nothing is told yet -/
theorem Dfn.none {P : Program} {w : World} {K : PySem.W.Frag} {mg : Str → Option Value} {base : Heap} {k : Nat} {x : Str} {n : Nat} {f : Addr} {fd : FuncData} {ps : List Str} (hmg : mg x = some (.ref f)) (kp : PySem.W.keepIn K (.ref f) = true) (hb : Binds K fd ps []) :
    Dfn P w K mg base k x n (fun _ _ => Option.none) := by
  refine ⟨fun ds M o e => (nomatch e), f, fd, ps, hmg, kp, hb, ⟨fun vs H Q E h => ?_, fun A outer s H args us vs Q E _ _ _ _ h => ?_⟩⟩
  · obtain ⟨p, M, ds, o, R, L, hn, e, _⟩ := h
    exact nomatch e
  · obtain ⟨p, M, ds, o, R, L, hn, e, _⟩ := h
    exact nomatch e

/-! ### max of ints -/
theorem wkK {prog : Program} {w : World} {A : Around} (k : Bool) (hh : A.handled = Option.none) {I ax : Addr} (hne : ax ≠ I) (xs : Array Value) :
    Walks prog w A I [I, ax] [I] xs.size (fun i v => xs[i]? = some v) (fun i h => ItK k h I ax i ∧ SeK k h ax xs) := by
  cases k
  · exact Walks.list hh I ax hne xs
  · exact Walks.tuple hh I ax hne xs
def maxI : List Int → Int
  | [] => 0
  | x :: xs => xs.foldl max x
theorem foldl_max : ∀ (xs : List Int) (x : Int), (xs.foldl max x = x ∨ xs.foldl max x ∈ xs) ∧ x ≤ xs.foldl max x ∧ ∀ y ∈ xs, y ≤ xs.foldl max x
  | [], x => ⟨.inl rfl, Int.le_refl _, fun _ h => nomatch h⟩
  | a :: xs, x => by
    obtain ⟨h1, h2, h3⟩ := foldl_max xs (max x a)
    rw [List.foldl_cons]
    refine ⟨?_, by omega, fun y hy => ?_⟩
    · rcases h1 with h | h
      · rw [h]
        by_cases q : x ≤ a
        · rw [Int.max_eq_right q]; exact .inr List.mem_cons_self
        · rw [Int.max_eq_left (by omega)]; exact .inl rfl
      · exact .inr (List.mem_cons_of_mem _ h)
    · rcases List.mem_cons.mp hy with rfl | hy
      · omega
      · exact h3 y hy
theorem maxI_mem {xs : List Int} (h : xs ≠ []) : maxI xs ∈ xs := by
  cases xs with
  | nil => exact (h rfl).elim
  | cons x xs =>
    rcases (foldl_max xs x).1 with q | q
    · show xs.foldl max x ∈ _
      rw [q]
      exact List.mem_cons_self
    · exact List.mem_cons_of_mem _ q
theorem maxI_le {xs : List Int} {y : Int} (h : y ∈ xs) : y ≤ maxI xs := by
  cases xs with
  | nil => exact nomatch h
  | cons x xs =>
    rcases List.mem_cons.mp h with rfl | h
    · exact (foldl_max xs y).2.1
    · exact (foldl_max xs x).2.2 y h
theorem best_le (val : Nat → Int) : ∀ k, argBest (fun i j => decide (val i > val j)) k ≤ k ∧ ∀ i, i ≤ k → val i ≤ val (argBest (fun i j => decide (val i > val j)) k)
  | 0 => ⟨Nat.le_refl _, fun i hi => by rw [Nat.le_zero.mp hi]; exact Int.le_refl _⟩
  | k + 1 => by
    obtain ⟨h1, h2⟩ := best_le val k
    unfold argBest
    by_cases q : val (k + 1) > val (argBest (fun i j => decide (val i > val j)) k)
    · rw [if_pos (by simpa using q)]
      refine ⟨Nat.le_refl _, fun i hi => ?_⟩
      rcases Nat.lt_or_eq_of_le hi with h | rfl
      · have := h2 i (by omega); omega
      · exact Int.le_refl _
    · rw [if_neg (by simpa using q)]
      refine ⟨by omega, fun i hi => ?_⟩
      rcases Nat.lt_or_eq_of_le hi with h | rfl
      · exact h2 i (by omega)
      · omega
def rMax1 (K : PySem.W.Frag) : List V → Hp → VK → Prop := fun vs H Q => ∃ (k : Bool) (a : Addr) (ns : List Int), vs = [.ref a] ∧ SqK K k H a (ns.map V.int) ∧ ns ≠ [] ∧ Q (.int (maxI ns)) H
theorem cr_max1 {X : Cx} (hc : X.calm = true) : CallR X (.builtin "max") (rMax1 X.K) := by
  intro pins s σ H vs us Q I r h
  obtain ⟨k, a, ns, rfl, hs, hne, q⟩ := h
  obtain ⟨⟨its, rv, p⟩, la, _⟩ := sqK I hs
  rw [Vals.ref1 r]
  have hl : its.length = ns.length := by rw [← rv.length, List.length_map]
  have hpos : 0 < ns.length := List.length_pos_iff.mpr hne
  refine call_max_walk ((begK k a its.toArray).iter _ _ _ _ _ _ p ?_)
  have hI : ItK k (s.heap.push (itO k a)) s.heap.objs.size a 0 := itO_at (Heap.get?_push_size _ (begK k a its.toArray).free)
  have hS : SeK k (s.heap.push (itO k a)) a its.toArray := (begK k a its.toArray).keeps _ _ p fun b o e => Heap.get?_push_of_some _ e
  have val : ∀ i v, its.toArray[i]? = some v → ∃ t, v = Value.int (ns.getD i 0) t := fun i v e => by
    have e' : its[i]? = some v := by simpa using e
    have hi : i < ns.length := by rw [← hl]; exact (List.getElem?_eq_some_iff.mp e').1
    obtain ⟨u, hu, ru⟩ := rv.get (i := i) (x := .int ns[i]) (by rw [List.getElem?_map, List.getElem?_eq_getElem hi]; rfl)
    rw [e'] at hu
    cases hu
    obtain ⟨t, rfl⟩ := ru
    exact ⟨t, by rw [List.getD_eq_getElem?_getD, List.getElem?_eq_getElem hi]; rfl⟩
  refine ⟨s.heap.objs.size, _, _, _, _, _, _, rfl, wkK (A := X.A.in1) k (I.ok.hd hc) (a_ne (.inl la)) its.toArray, ⟨hI, hS⟩, ?_, by rw [List.size_toArray, hl]; exact hpos, CmpOf.ints_gt (fun i => ns.getD i 0) val, fun v h' tk hP hk => ?_⟩
  · intro b hb
    show @LT.lt Nat _ b (s.heap.push _).objs.size
    rw [Heap.size_push]
    have : @Eq Nat b s.heap.objs.size ∨ @Eq Nat b a := by simpa using hb
    omega
  · obtain ⟨t, rfl⟩ := val _ _ hP
    refine ⟨.int _, H, I.kept fun b o eo => hk b o (fun hm => ?_) (Heap.get?_push_of_some _ eo), ⟨t, rfl⟩, ?_⟩
    · rw [List.mem_singleton] at hm
      exact a_ne (.inl (Heap.lt_size eo)) hm
    · obtain ⟨b1, b2⟩ := best_le (fun i => ns.getD i 0) (its.toArray.size - 1)
      have hsz : its.toArray.size - 1 = ns.length - 1 := by rw [List.size_toArray, hl]
      rw [hsz] at b1 b2 ⊢
      generalize hj : argBest (fun i j => decide (ns.getD i 0 > ns.getD j 0)) (ns.length - 1) = j at b1 b2
      have hjl : j < ns.length := by omega
      have e1 : ns.getD j 0 = ns[j] := by rw [List.getD_eq_getElem?_getD, List.getElem?_eq_getElem hjl]; rfl
      have le1 : ns.getD j 0 ≤ maxI ns := by rw [e1]; exact maxI_le (List.getElem_mem hjl)
      have le2 : maxI ns ≤ ns.getD j 0 := by
        obtain ⟨i, hi, e⟩ := List.mem_iff_getElem.mp (maxI_mem hne)
        have := b2 i (by omega)
        rw [List.getD_eq_getElem?_getD, List.getElem?_eq_getElem hi] at this
        rw [← e]
        exact this
      rw [Int.le_antisymm le1 le2]
      exact q
def intOf : D → Option Int
  | .int i => some i
  | _ => Option.none
def blOf : D → Option Bool
  | .bl i => some i
  | _ => Option.none
def max1G : D → Hd → Option (Rs D) := fun d M => match sqD d M with
  | some (ds, _) => (match ds.mapM intOf with
    | some (n :: ns) => some (.ok (.int (maxI (n :: ns))) M)
    | _ => Option.none)
  | _ => Option.none
def allG : D → Hd → Option (Rs D) := fun d M => match d with
  | .ref i => (match M[i]? with
    | some (.lst ds) => (match ds.mapM blOf with
      | some bs => some (.ok (.bl (bs.all id)) M)
      | _ => Option.none)
    | _ => Option.none)
  | _ => Option.none
def anyG : D → Hd → Option (Rs D) := fun d M => match d with
  | .ref i => (match M[i]? with
    | some (.lst ds) => (match ds.mapM blOf with
      | some bs => some (.ok (.bl (bs.any id)) M)
      | _ => Option.none)
    | _ => Option.none)
  | _ => Option.none
theorem reps_ints {K : PySem.W.Frag} {p : List Addr} {H : Hp} : ∀ {ds : List D} {vs : List V} {ns : List Int}, Reps K p H ds vs → ds.mapM intOf = some ns → vs = ns.map V.int
  | [], _, ns, h, e => by
    unfold Reps at h
    subst h
    simp at e
    subst e
    rfl
  | d :: ds, _, ns, h, e => by
    unfold Reps at h
    obtain ⟨v, ws, rfl, r, q⟩ := h
    rw [List.mapM_cons] at e
    cases d with
    | int i =>
      cases e2 : ds.mapM intOf with
      | none => rw [e2] at e; exact nomatch e
      | some xs =>
        rw [e2] at e
        cases e
        unfold Rep at r
        rw [r, reps_ints q e2]
        rfl
    | _ => exact nomatch e
theorem reps_bls {K : PySem.W.Frag} {p : List Addr} {H : Hp} : ∀ {ds : List D} {vs : List V} {ns : List Bool}, Reps K p H ds vs → ds.mapM blOf = some ns → vs = ns.map V.bl
  | [], _, ns, h, e => by
    unfold Reps at h
    subst h
    simp at e
    subst e
    rfl
  | d :: ds, _, ns, h, e => by
    unfold Reps at h
    obtain ⟨v, ws, rfl, r, q⟩ := h
    rw [List.mapM_cons] at e
    cases d with
    | bl i =>
      cases e2 : ds.mapM blOf with
      | none => rw [e2] at e; exact nomatch e
      | some xs =>
        rw [e2] at e
        cases e
        unfold Rep at r
        rw [r, reps_bls q e2]
        rfl
    | _ => exact nomatch e
section
variable {X : Cx} {z : Zx} {W : WX} {e : Expr} {f : EF} {pos : Pos}
theorem de_max1 {p' : Pos} (hc : X.calm = true) (ha : DE X z W e f) (hm : X.mg "max" = Option.none) (hg : Gl X "max" := by rfl) (he : starEach [e] X.env = (false, eval e X.env) :: starEach [] X.env := by rfl) : DE X z W (.Call (.Name "max" p') [e] [] pos) (eUn max1G f) := by
  refine (pe_callB (cr_max1 hc) hg hm PyProof.Rows.boot_max (pa_cons ha pa_nil he) (he := he)).imp ?_
  rintro σ H Q ⟨p, M, ρ, o, R, L, e, po⟩
  refine gE_bnd R L e po fun d M1 p1 H1 v R1 L1 hl1 hp1 q1 e1 po1 => ?_
  unfold max1G at e1
  split at e1
  · rename_i ds g hd
    split at e1
    · rename_i n ns hn
      cases e1
      obtain ⟨a, b, rfl, s1, k1⟩ := sq_of R1 q1 hd
      obtain ⟨vs, r, s⟩ := k1 p1 M1 H1 (List.prefix_refl _) (Le.refl _) R1 s1
      have := reps_ints r hn
      subst this
      exact ⟨b, a, n :: ns, rfl, s, (fun q => nomatch q), po1.ok R1 rep_int⟩
    · cases e1
  · cases e1
theorem de_all {p' : Pos} (hc : X.calm = true) (ha : DE X z W e f) (hm : X.mg "all" = Option.none) (hg : Gl X "all" := by rfl) (he : starEach [e] X.env = (false, eval e X.env) :: starEach [] X.env := by rfl) : DE X z W (.Call (.Name "all" p') [e] [] pos) (eUn allG f) := by
  refine (pe_callB (cr_all hc) hg hm PyProof.Rows.boot_all (pa_cons ha pa_nil he) (he := he)).imp ?_
  rintro σ H Q ⟨p, M, ρ, o, R, L, e, po⟩
  refine gE_bnd R L e po fun d M1 p1 H1 v R1 L1 hl1 hp1 q1 e1 po1 => ?_
  cases d with
  | ref i =>
    unfold allG at e1
    dsimp only at e1
    split at e1
    · rename_i ds ho
      split at e1
      · rename_i bs hb
        cases e1
        obtain ⟨a, vs, rfl, _, s, r⟩ := rep_lst R1 q1 ho
        have := reps_bls r hb
        subst this
        exact ⟨a, bs, rfl, SqL.of s, po1.ok R1 rep_bl⟩
      · cases e1
    · cases e1
  | _ => cases e1
theorem de_any {p' : Pos} (hc : X.calm = true) (ha : DE X z W e f) (hm : X.mg "any" = Option.none) (hg : Gl X "any" := by rfl) (he : starEach [e] X.env = (false, eval e X.env) :: starEach [] X.env := by rfl) : DE X z W (.Call (.Name "any" p') [e] [] pos) (eUn anyG f) := by
  refine (pe_callB (cr_any hc) hg hm PyProof.Rows.boot_any (pa_cons ha pa_nil he) (he := he)).imp ?_
  rintro σ H Q ⟨p, M, ρ, o, R, L, e, po⟩
  refine gE_bnd R L e po fun d M1 p1 H1 v R1 L1 hl1 hp1 q1 e1 po1 => ?_
  cases d with
  | ref i =>
    unfold anyG at e1
    dsimp only at e1
    split at e1
    · rename_i ds ho
      split at e1
      · rename_i bs hb
        cases e1
        obtain ⟨a, vs, rfl, _, s, r⟩ := rep_lst R1 q1 ho
        have := reps_bls r hb
        subst this
        exact ⟨a, bs, rfl, SqL.of s, po1.ok R1 rep_bl⟩
      · cases e1
    · cases e1
  | _ => cases e1
end
end DI

end

section
set_option Elab.async false
set_option linter.all false
set_option maxRecDepth 100000
set_option maxHeartbeats 4000000
/-! DI9: exceptions of own classes, raised and caught. -/
namespace DI
open PySem PySem.Spec PyProof.Rows L2

/-- the head's facts and one test more -/
def hookQ (n : Nat) (fa : List He.Fa) (fn : List He.DefD) (ex : PySem.W.Frag → Bool) : PySem.W.Hook where
  α := He.AlD × Bool
  obs := fun s => (He.obsD fa fn (He.frG s.heap.get? (He.asD s.heap.get? n)), ex (He.frG s.heap.get? (He.asD s.heap.get? n)))
  val := fun _ => (He.valD fn, true)
  says := fun _ h => ∃ K : PySem.W.Frag, K.In h ∧ He.SaysD fa fn K ∧ ex K = true
  of := fun _ _ e => ⟨_, He.frG_in, congrArg Prod.fst e, congrArg Prod.snd e⟩
  keeps := fun _ _ _ ⟨K, hK, c⟩ k => ⟨K, PySem.W.Frag.In.keeps hK k, c⟩
def obQ (n : Nat) (fa : List He.Fa) (fn : List He.DefD) (ex : PySem.W.Frag → Bool) (g : Addr → Option Obj) : He.AlD × Bool := (He.obsD fa fn (He.frG g (He.asD g n)), ex (He.frG g (He.asD g n)))
theorem obQ_eq {n : Nat} {fa : List He.Fa} {fn : List He.DefD} {ex : PySem.W.Frag → Bool} {g : Addr → Option Obj} {s : Shared} (h : ∀ a, g a = s.heap.get? a) : obQ n fa fn ex g = (hookQ n fa fn ex).obs s := by
  have e : g = s.heap.get? := funext h
  rw [e]
  rfl

/-- an own class of exceptions over ValueError, without own methods -/
structure XCl (K : PySem.W.Frag) (mg : Str → Option Value) (c : Str) : Prop where
  ex : ∃ C, mg c = some (.ref C) ∧ PySem.W.excIn K C He.veBase "ValueError.__new__" = true ∧ PySem.W.keepIn K (.ref C) = true ∧ PySem.W.subIn K (.ref C) (.type "BaseException") = some true ∧ PySem.W.typeIn K (.ref C) = some (.type "type")
section
variable {X : Cx} {W : WX}
theorem ds_raise {c m : Str} {j : Nat} {p p2 pos pos' : Pos} {z : Zx} (hc : X.calm = true) (tk : Takes X W) (F : XCl X.K X.mg c) (hg : Gl X c := by rfl) (hdb : (c == ("__debug__" : Str)) = false := by decide) :
    DS X z W (.Raise (some (.Call (.Name c p) [.Constant (.str m) j p2] [] pos)) none pos') (sRaise c) := by
  obtain ⟨C, g1, g2, g3, g4, g5⟩ := F.ex
  refine (ps_raise hc tk (pmk_own PySem.F.excBase_ValueError g2 g1 g3 (raises_own g4 g5) hg hdb)).imp ?_
  rintro Dn σ H ⟨q, M, r, o, R, L, e, po⟩
  cases e
  exact po q H σ C (List.prefix_refl q) (Le.refl H) R L g1
end
/-! ### try -/
def clr (i : Nat) (r : Ev) : Ev := r.set i none
/-- try: body except C as x (slot i): suite; sub: whether a class is under C -/
def sTryAs (sub : Str → Option Bool) (i : Nat) (body : SF) (suite : Str → SF) : SF := fun r M => match body r M with
  | some (.xx c r1, M1) => (match sub c with
    | some true => (match suite c (clr i r1) M1 with
      | some (.nx r2, M2) => some (.nx (clr i r2), M2)
      | some (.bk r2, M2) => some (.bk (clr i r2), M2)
      | some (.ct r2, M2) => some (.ct (clr i r2), M2)
      | some (.rt d, M2) => some (.rt d, M2)
      | _ => none)
    | some false => some (.xx c r1, M1)
    | none => none)
  | o => o
/-- .. without a name -/
def sTry (sub : Str → Option Bool) (body : SF) (suite : Str → SF) : SF := fun r M => match body r M with
  | some (.xx c r1, M1) => (match sub c with
    | some true => (match suite c r1 M1 with
      | some (.xx _ _, _) => none
      | o => o)
    | some false => some (.xx c r1, M1)
    | none => none)
  | o => o
theorem Sl.hold {K : PySem.W.Frag} {p : List Addr} {H : Hp} {r : Ev} {σ : L2.St} (s : Sl K none p H r σ) (i : Nat) (a : Addr) : Sl K (some (a, i)) p H (clr i r) (σ.set i (some (.ref a))) := by
  refine ⟨by unfold clr; rw [List.length_set, List.length_set]; exact s.len, fun j d e => ?_, fun b k hz e => ?_⟩
  · unfold clr at e
    by_cases hj : i = j
    · subst hj
      have hi : i < r.length := by
        have := (List.getElem?_eq_some_iff.mp e).1
        rwa [List.length_set] at this
      rw [List.getElem?_set_self hi] at e
      cases e
    · rw [List.getElem?_set_ne hj] at e ⊢
      exact s.at_ j d e
  · cases hz
    have hi : i < σ.length := by
      have := (List.getElem?_eq_some_iff.mp e).1
      unfold clr at this
      rw [List.length_set] at this
      rw [← s.len]
      exact this
    rw [List.getElem?_set_self hi]
theorem Sl.free {K : PySem.W.Frag} {z : Zx} {p : List Addr} {H : Hp} {r : Ev} {σ : L2.St} (s : Sl K z p H r σ) (i : Nat) : Sl K none p H (clr i r) (σ.set i none) := by
  unfold clr
  refine ⟨by rw [List.length_set, List.length_set]; exact s.len, fun j e h => ?_, fun a j hz h => nomatch hz⟩
  by_cases hj : i = j
  · subst hj
    have hi : i < r.length := by
      have := (List.getElem?_eq_some_iff.mp h).1
      rwa [List.length_set] at this
    rw [List.getElem?_set_self hi] at h
    cases h
  · rw [List.getElem?_set_ne hj] at h
    obtain ⟨u, e', q'⟩ := s.at_ j e h
    exact ⟨u, by rw [List.getElem?_set_ne hj]; exact e', q'⟩
/-- what is known of the classes that a body may raise -/
def SubOk (X : Cx) (hc : Value) (sub : Str → Option Bool) : Prop := ∀ c b D, sub c = some b → X.mg c = some (.ref D) → PySem.W.exmOne X.K (.ref D) hc = some b
section
variable {X : Cx} {W : WX} {x n : Str} {c : Value} {i : Nat} {body suite : List Stmt} {b₀ : Stmt} {np pos pos' : Pos} {sub : Str → Option Bool} {g : SF} {gs : Str → SF}
theorem ds_tryAs (hs : X.stack = X.env :: X.outer) (hf : X.env.frame = some X.env.locals) (hN : X.N.Nodup) (hi : X.N[i]? = some n) (hln : X.env.kindOf n = some .local) (hc : Names X x c) (tk : Takes X W) (so : SubOk X c sub)
    (hb : ∀ (W : WX) (pn : List (Addr × Obj)) (xe : Value → Shared → Prop), Takes (X.tr pn xe) W → PassesOwn (model X.prog X.w) X.A X.env xe → DSs (X.tr pn xe) none W body g)
    (hsu : ∀ (a : Addr) (oe : Obj) (dn : Str) (D : Addr) (pn : List (Addr × Obj)), X.mg dn = some (.ref D) → Zc (.ref D) none oe → (∃ vs, oe.data = .fields vs) → DSs (X.suite a ((a, oe) :: pn)) (some (a, i)) W0 (b₀ :: suite) (gs dn)) :
    DS X none W (.Try body [.ExceptHandler (some (.Name x np)) (some n) (b₀ :: suite) pos'] [] [] pos) (sTryAs sub i g gs) := by
  let ts : Addr → Value → Option Addr → TS := fun a cls d Dn σ H => ∃ dn D, cls = .ref D ∧ d = none ∧ X.mg dn = some (.ref D) ∧ gS ⟨X.K, X.mg, some (a, i)⟩ W0 (gs dn) Dn σ H
  refine (ps_try_as (tb := fun W => gS (Cx.k X none) W g) (ts := ts) hs hf hN hi hln hc tk hb (fun a oe cls d pn hz hv => ⟨fun pins s σ H Dn I h => ?_⟩)).imp ?_
  · obtain ⟨dn, D, rfl, rfl, hm, h⟩ := h
    exact (hsu a oe dn D pn hm hz hv).run pins s σ H Dn I h
  rintro Dn σ H ⟨p, M, r, o, R, L, e, po⟩
  unfold sTryAs at e
  cases eb : g r M with
  | none => rw [eb] at e; cases e
  | some w =>
    obtain ⟨fl, M1⟩ := w
    refine ⟨p, M, r, (fl, M1), R, L, eb, ?_⟩
    rw [eb] at e
    cases fl with
    | nx r1 => cases e; exact po
    | bk r1 => cases e; exact po
    | ct r1 => cases e; exact po
    | rt d => cases e; exact po
    | xx c1 r1 =>
      intro p' H' σ' C hp hl R' L' hC
      dsimp only at e
      cases hsb : sub c1 with
      | none => rw [hsb] at e; cases e
      | some b =>
        rw [hsb] at e
        refine ⟨b, so c1 b C hsb hC, fun hbt a ha => ?_, fun hbf => ?_⟩
        · subst hbt
          refine ⟨c1, C, rfl, rfl, hC, ?_⟩
          dsimp only at e
          cases es : gs c1 (clr i r1) M1 with
          | none => rw [es] at e; cases e
          | some w =>
            obtain ⟨fl2, M2⟩ := w
            refine ⟨p', M1, clr i r1, (fl2, M2), R', L'.hold i a, es, ?_⟩
            rw [es] at e
            cases fl2 with
            | nx r2 => cases e; exact fun p2 H2 σ2 hp2 hl2 R2 L2 => po p2 H2 _ (hp.trans hp2) (hl.trans hl2) R2 (L2.free i)
            | bk r2 => cases e; exact fun p2 H2 σ2 hp2 hl2 R2 L2 => po p2 H2 _ (hp.trans hp2) (hl.trans hl2) R2 (L2.free i)
            | ct r2 => cases e; exact fun p2 H2 σ2 hp2 hl2 R2 L2 => po p2 H2 _ (hp.trans hp2) (hl.trans hl2) R2 (L2.free i)
            | rt d => cases e; exact fun p2 H2 v hp2 hl2 R2 q => po p2 H2 v (hp.trans hp2) (hl.trans hl2) R2 q
            | xx c2 r2 => cases e
        · subst hbf
          cases e
          exact po p' H' σ' C hp hl R' L' hC
theorem ds_try (hs : X.stack = X.env :: X.outer) (hf : X.env.frame = some X.env.locals) (hc : Names X x c) (tk : Takes X W) (so : SubOk X c sub)
    (hb : ∀ (W : WX) (pn : List (Addr × Obj)) (xe : Value → Shared → Prop), Takes (X.tr pn xe) W → PassesOwn (model X.prog X.w) X.A X.env xe → DSs (X.tr pn xe) none W body g)
    (hsu : ∀ (a : Addr) (oe : Obj) (dn : Str) (D : Addr) (pn : List (Addr × Obj)), X.mg dn = some (.ref D) → Zc (.ref D) none oe → (∃ vs, oe.data = .fields vs) → DSs (X.suite a ((a, oe) :: pn)) none W0 (b₀ :: suite) (gs dn)) :
    DS X none W (.Try body [.ExceptHandler (some (.Name x np)) none (b₀ :: suite) pos'] [] [] pos) (sTry sub g gs) := by
  let ts : Addr → Value → Option Addr → TS := fun a cls d Dn σ H => ∃ dn D, cls = .ref D ∧ d = none ∧ X.mg dn = some (.ref D) ∧ gS ⟨X.K, X.mg, none⟩ W0 (gs dn) Dn σ H
  refine (ps_try_only (tb := fun W => gS (Cx.k X none) W g) (ts := ts) hs hf hc tk hb (fun a oe cls d pn hz hv => ⟨fun pins s σ H Dn I h => ?_⟩)).imp ?_
  · obtain ⟨dn, D, rfl, rfl, hm, h⟩ := h
    exact (hsu a oe dn D pn hm hz hv).run pins s σ H Dn I h
  rintro Dn σ H ⟨p, M, r, o, R, L, e, po⟩
  unfold sTry at e
  cases eb : g r M with
  | none => rw [eb] at e; cases e
  | some w =>
    obtain ⟨fl, M1⟩ := w
    refine ⟨p, M, r, (fl, M1), R, L, eb, ?_⟩
    rw [eb] at e
    cases fl with
    | nx r1 => cases e; exact po
    | bk r1 => cases e; exact po
    | ct r1 => cases e; exact po
    | rt d => cases e; exact po
    | xx c1 r1 =>
      intro p' H' σ' C hp hl R' L' hC
      dsimp only at e
      cases hsb : sub c1 with
      | none => rw [hsb] at e; cases e
      | some b =>
        rw [hsb] at e
        refine ⟨b, so c1 b C hsb hC, fun hbt a ha => ?_, fun hbf => ?_⟩
        · subst hbt
          refine ⟨c1, C, rfl, rfl, hC, ?_⟩
          dsimp only at e
          cases es : gs c1 r1 M1 with
          | none => rw [es] at e; cases e
          | some w =>
            obtain ⟨fl2, M2⟩ := w
            refine ⟨p', M1, r1, (fl2, M2), R', L', es, ?_⟩
            rw [es] at e
            cases fl2 with
            | nx r2 => cases e; exact fun p2 H2 σ2 hp2 hl2 R2 L2 => po p2 H2 _ (hp.trans hp2) (hl.trans hl2) R2 L2
            | bk r2 => cases e; exact fun p2 H2 σ2 hp2 hl2 R2 L2 => po p2 H2 _ (hp.trans hp2) (hl.trans hl2) R2 L2
            | ct r2 => cases e; exact fun p2 H2 σ2 hp2 hl2 R2 L2 => po p2 H2 _ (hp.trans hp2) (hl.trans hl2) R2 L2
            | rt d => cases e; exact fun p2 H2 v hp2 hl2 R2 q => po p2 H2 v (hp.trans hp2) (hl.trans hl2) R2 q
            | xx c2 r2 => cases e
        · subst hbf
          cases e
          exact po p' H' σ' C hp hl R' L' hC
end
/-! ### isinstance of the exception that is held -/
def eIsE (i : Nat) (o : Option Bool) : EF := fun r M => match r[i]? with
  | some none => (match o with
    | some b => some (.ok (.bl b) M)
    | none => none)
  | _ => none
structure IsI (K : PySem.W.Frag) (mg : Str → Option Value) (c : Str) (tbl : Str → Option Bool) : Prop where
  ex : ∃ C, mg c = some (.ref C) ∧ ∀ d b D, tbl d = some b → mg d = some (.ref D) → ExcC K D ∧ PySem.W.kitOne K (.ref D) (.ref C) = some b
structure IsB (K : PySem.W.Frag) (mg : Str → Option Value) (T : String) (tbl : Str → Option Bool) : Prop where
  ex : ∀ d b D, tbl d = some b → mg d = some (.ref D) → ExcC K D ∧ PySem.W.kitOne K (.ref D) (.type T) = some b
structure Hnd (K : PySem.W.Frag) (mg : Str → Option Value) (c : Str) (sub : Str → Option Bool) : Prop where
  ex : ∃ C, mg c = some (.ref C) ∧ ∀ d b D, sub d = some b → mg d = some (.ref D) → PySem.W.exmOne K (.ref D) (.ref C) = some b
theorem Hnd.ok {X : Cx} {c : Str} {sub : Str → Option Bool} (h : Hnd X.K X.mg c sub) (hg : Gl X c) (hdb : (c == ("__debug__" : Str)) = false) : ∃ v, Names X c v ∧ SubOk X v sub := by
  obtain ⟨C, h1, h2⟩ := h.ex
  exact ⟨.ref C, ⟨hg, hdb, .inl h1⟩, h2⟩
section
variable {X : Cx} {a D : Addr} {oe : Obj} {pn : List (Addr × Obj)} {dn c n : Str} {i : Nat} {tbl : Str → Option Bool} {p' p1 p2 pos : Pos} {W : WX}
theorem de_isE (F : IsI X.K X.mg c tbl) (hm : X.mg dn = some (.ref D)) (hz : Zc (.ref D) none oe) (hf : ∃ vs, oe.data = .fields vs) (hmi : X.mg "isinstance" = none) (hg : Gl X "isinstance" := by rfl) (hgc : Gl X c := by rfl) (hdb : (c == ("__debug__" : Str)) = false := by decide)
    (hN : X.N[i]? = some n := by rfl) (hv : Vis X.env.scope n := by first | exact Or.inl rfl | exact Or.inr (Or.inl rfl) | exact Or.inr (Or.inr rfl)) (hd1 : (n == ("__debug__" : Str)) = false := by decide) (hd2 : (n == ("__classdict__" : Str)) = false := by decide)
    (he : starEach [.Name n p1, .Name c p2] X.env = (false, eval (.Name n p1) X.env) :: starEach [.Name c p2] X.env := by rfl) (hpl : (backTo pos (starEach [.Name c p2] X.env)).any (·.1) = false := by rfl) (he2 : starEach [.Name c p2] X.env = (false, eval (.Name c p2) X.env) :: starEach [] X.env := by rfl) :
    DE (X.suite a ((a, oe) :: pn)) (some (a, i)) W (.Call (.Name "isinstance" p') [.Name n p1, .Name c p2] [] pos) (eIsE i (tbl dn)) := by
  obtain ⟨C, h1, h2⟩ := F.ex
  have nv : PE (X.suite a ((a, oe) :: pn)) (.Name n p1) _ := pe_var (i := i) hN hv hd1 hd2
  have cv : PE (X.suite a ((a, oe) :: pn)) (.Name c p2) _ := pe_glob (v := .ref C) hgc h1 rfl hdb
  cases ht : tbl dn with
  | none =>
    refine ⟨fun pins s σ H Q I h => ?_⟩
    obtain ⟨q, M, r, o, R, L, e, po⟩ := h
    unfold eIsE at e
    split at e <;> cases e
  | some b =>
    obtain ⟨ec, kt⟩ := h2 dn b D ht hm
    refine (pe_callB (X := X.suite a ((a, oe) :: pn)) (call_isE ec hz hf) hg hmi PyProof.Rows.boot_isinstance (pa_cons nv (pa_cons cv pa_nil he2) he) (he := he) (hpl := hpl)).imp ?_
    rintro σ H Q ⟨q, M, r, o, R, L, e, po⟩
    unfold eIsE at e
    split at e
    · rename_i hr
      cases e
      exact ⟨.ref a, L.ex a i rfl hr, .ref C, .ref C, b, rfl, (fun u hu => hu), kt, po.ok R rep_bl⟩
    · cases e
theorem de_isB {T : String} (F : IsB X.K X.mg T tbl) (hm : X.mg dn = some (.ref D)) (hz : Zc (.ref D) none oe) (hf : ∃ vs, oe.data = .fields vs) (hmi : X.mg "isinstance" = none) (hmc : X.mg c = none) (hb : bootBuiltins c = some (.type T)) (hg : Gl X "isinstance" := by rfl) (hgc : Gl X c := by rfl) (hnn : c ≠ "__name__" := by decide) (hdb : (c == ("__debug__" : Str)) = false := by decide)
    (hN : X.N[i]? = some n := by rfl) (hv : Vis X.env.scope n := by first | exact Or.inl rfl | exact Or.inr (Or.inl rfl) | exact Or.inr (Or.inr rfl)) (hd1 : (n == ("__debug__" : Str)) = false := by decide) (hd2 : (n == ("__classdict__" : Str)) = false := by decide)
    (he : starEach [.Name n p1, .Name c p2] X.env = (false, eval (.Name n p1) X.env) :: starEach [.Name c p2] X.env := by rfl) (hpl : (backTo pos (starEach [.Name c p2] X.env)).any (·.1) = false := by rfl) (he2 : starEach [.Name c p2] X.env = (false, eval (.Name c p2) X.env) :: starEach [] X.env := by rfl) :
    DE (X.suite a ((a, oe) :: pn)) (some (a, i)) W (.Call (.Name "isinstance" p') [.Name n p1, .Name c p2] [] pos) (eIsE i (tbl dn)) := by
  have nv : PE (X.suite a ((a, oe) :: pn)) (.Name n p1) _ := pe_var (i := i) hN hv hd1 hd2
  have cv : PE (X.suite a ((a, oe) :: pn)) (.Name c p2) _ := pe_bltn (v := .ty T) hgc hmc hb rfl hnn hdb
  cases ht : tbl dn with
  | none =>
    refine ⟨fun pins s σ H Q I h => ?_⟩
    obtain ⟨q, M, r, o, R, L, e, po⟩ := h
    unfold eIsE at e
    split at e <;> cases e
  | some b =>
    obtain ⟨ec, kt⟩ := F.ex dn b D ht hm
    refine (pe_callB (X := X.suite a ((a, oe) :: pn)) (call_isE ec hz hf) hg hmi PyProof.Rows.boot_isinstance (pa_cons nv (pa_cons cv pa_nil he2) he) (he := he) (hpl := hpl)).imp ?_
    rintro σ H Q ⟨q, M, r, o, R, L, e, po⟩
    unfold eIsE at e
    split at e
    · rename_i hr
      cases e
      exact ⟨.ref a, L.ex a i rfl hr, .ty T, .type T, b, rfl, (fun u hu => hu), kt, po.ok R rep_bl⟩
    · cases e
end
/-! ### the head's part -/
def excB (K : PySem.W.Frag) (x : Str) : Bool :=
  He.eqO (PySem.W.findIn K (.ref (He.ga K x)) "__getattribute__") (some (some (.builtin "BaseException.__getattribute__"))) && (He.eqO (PySem.W.findIn K (.ref (He.ga K x)) "__getattr__") (some none) && (decide (PySem.W.subIn K (.ref (He.ga K x)) (.type "BaseException") = some true) && (PySem.W.hasDictIn K (He.ga K x) && (
  He.eqO (PySem.W.findIn K (.ref (He.ga K x)) "__class__") (some (some (.builtin "object.__class__"))) && (He.eqO (PySem.W.specialIn K (.builtin "object.__class__") "__get__") (some (some (.builtin "getset_descriptor.__get__"))) && (decide (PySem.W.takesIn K (.builtin "object.__class__") = some true) && decide (PySem.W.mroIn K (He.ga K x) (.type "object") = some true)))))))
theorem excB_ok {K : PySem.W.Frag} {x : Str} (h : excB K x = true) : ExcC K (He.ga K x) := by
  obtain ⟨h1, h⟩ := He.ba h
  obtain ⟨h2, h⟩ := He.ba h
  obtain ⟨h3, h⟩ := He.ba h
  obtain ⟨h4, h⟩ := He.ba h
  obtain ⟨h5, h⟩ := He.ba h
  obtain ⟨h6, h⟩ := He.ba h
  obtain ⟨h7, h8⟩ := He.ba h
  exact ⟨He.eqO_ok h1, He.eqO_ok h2, of_decide_eq_true h3, h4, He.eqO_ok h5, He.eqO_ok h6, of_decide_eq_true h7, of_decide_eq_true h8⟩
def kitB (K : PySem.W.Frag) (x : Str) (v : Value) (b : Bool) : Bool := decide (PySem.W.kitOne K (.ref (He.ga K x)) v = some b)
theorem kitB_ok {K : PySem.W.Frag} {x : Str} {v : Value} {b : Bool} (h : kitB K x v b = true) : PySem.W.kitOne K (.ref (He.ga K x)) v = some b := of_decide_eq_true h
theorem ex_at {l : List Bool} (h : l.all id = true) (i : Nat) {b : Bool} (e : l[i]? = some b := by rfl) : b = true := List.all_eq_true.mp h b (List.mem_of_getElem? e)
def tblOf (l : List (Str × Bool)) : Str → Option Bool := fun d => l.lookup d
theorem tblOf_mem {d : Str} {b : Bool} : ∀ {l : List (Str × Bool)}, tblOf l d = some b → (d, b) ∈ l
  | [], h => nomatch h
  | (x, y) :: l, h => by
    unfold tblOf at h
    rw [List.lookup_cons] at h
    by_cases e : d == x
    · rw [e] at h
      cases h
      rw [eq_of_beq e]
      exact List.mem_cons_self
    · rw [Bool.not_eq_true] at e
      rw [e] at h
      exact List.mem_cons_of_mem _ (tblOf_mem h)
theorem hnd_of {K : PySem.W.Frag} {mg : Str → Option Value} {c : Str} {l : List (Str × Bool)} (h : mg c = some (.ref (He.ga K c))) (hl : ∀ p ∈ l, mg p.1 = some (.ref (He.ga K p.1)) ∧ PySem.W.exmOne K (.ref (He.ga K p.1)) (.ref (He.ga K c)) = some p.2) : Hnd K mg c (tblOf l) := by
  refine ⟨_, h, fun d b D ht hm => ?_⟩
  obtain ⟨h1, h2⟩ := hl _ (tblOf_mem ht)
  rw [h1] at hm
  cases hm
  exact h2
theorem isI_of {K : PySem.W.Frag} {mg : Str → Option Value} {c : Str} {l : List (Str × Bool)} (h : mg c = some (.ref (He.ga K c))) (hl : ∀ p ∈ l, mg p.1 = some (.ref (He.ga K p.1)) ∧ ExcC K (He.ga K p.1) ∧ PySem.W.kitOne K (.ref (He.ga K p.1)) (.ref (He.ga K c)) = some p.2) : IsI K mg c (tblOf l) := by
  refine ⟨_, h, fun d b D ht hm => ?_⟩
  obtain ⟨h1, h2⟩ := hl _ (tblOf_mem ht)
  rw [h1] at hm
  cases hm
  exact h2
theorem isB_of {K : PySem.W.Frag} {mg : Str → Option Value} {T : String} {l : List (Str × Bool)} (hl : ∀ p ∈ l, mg p.1 = some (.ref (He.ga K p.1)) ∧ ExcC K (He.ga K p.1) ∧ PySem.W.kitOne K (.ref (He.ga K p.1)) (.type T) = some p.2) : IsB K mg T (tblOf l) := by
  refine ⟨fun d b D ht hm => ?_⟩
  obtain ⟨h1, h2⟩ := hl _ (tblOf_mem ht)
  rw [h1] at hm
  cases hm
  exact h2
theorem xcl_of {K : PySem.W.Frag} {mg : Str → Option Value} {c : Str} (h : mg c = some (.ref (He.ga K c))) (hc : (He.Fa.exc c).ok K = true) : XCl K mg c := by
  obtain ⟨h1, h2, h3, h4⟩ := He.exc_ok hc
  exact ⟨_, h, h1, h2, h3, h4⟩
section
variable {X : Cx} {W : WX} {x n : Str} {i : Nat} {body suite : List Stmt} {b₀ : Stmt} {np pos pos' : Pos} {sub : Str → Option Bool} {g : SF} {gs : Str → SF}
theorem ds_tryAsH (i : Nat) (hN : X.N.Nodup) (tk : Takes X W) (F : Hnd X.K X.mg x sub)
    (hb : ∀ (W : WX) (pn : List (Addr × Obj)) (xe : Value → Shared → Prop), Takes (X.tr pn xe) W → PassesOwn (model X.prog X.w) X.A X.env xe → DSs (X.tr pn xe) none W body g)
    (hsu : ∀ (a : Addr) (oe : Obj) (dn : Str) (D : Addr) (pn : List (Addr × Obj)), X.mg dn = some (.ref D) → Zc (.ref D) none oe → (∃ vs, oe.data = .fields vs) → DSs (X.suite a ((a, oe) :: pn)) (some (a, i)) W0 (b₀ :: suite) (gs dn))
    (hs : X.stack = X.env :: X.outer := by rfl) (hf : X.env.frame = some X.env.locals := by rfl) (hi : X.N[i]? = some n := by rfl) (hln : X.env.kindOf n = some .local := by rfl) (hg : Gl X x := by rfl) (hdb : (x == ("__debug__" : Str)) = false := by decide) :
    DS X none W (.Try body [.ExceptHandler (some (.Name x np)) (some n) (b₀ :: suite) pos'] [] [] pos) (sTryAs sub i g gs) := by
  obtain ⟨v, h1, h2⟩ := F.ok hg hdb
  exact ds_tryAs hs hf hN hi hln h1 tk h2 hb hsu
theorem ds_tryH (tk : Takes X W) (F : Hnd X.K X.mg x sub)
    (hb : ∀ (W : WX) (pn : List (Addr × Obj)) (xe : Value → Shared → Prop), Takes (X.tr pn xe) W → PassesOwn (model X.prog X.w) X.A X.env xe → DSs (X.tr pn xe) none W body g)
    (hsu : ∀ (a : Addr) (oe : Obj) (dn : Str) (D : Addr) (pn : List (Addr × Obj)), X.mg dn = some (.ref D) → Zc (.ref D) none oe → (∃ vs, oe.data = .fields vs) → DSs (X.suite a ((a, oe) :: pn)) none W0 (b₀ :: suite) (gs dn))
    (hs : X.stack = X.env :: X.outer := by rfl) (hf : X.env.frame = some X.env.locals := by rfl) (hg : Gl X x := by rfl) (hdb : (x == ("__debug__" : Str)) = false := by decide) :
    DS X none W (.Try body [.ExceptHandler (some (.Name x np)) none (b₀ :: suite) pos'] [] [] pos) (sTry sub g gs) := by
  obtain ⟨v, h1, h2⟩ := F.ok hg hdb
  exact ds_try hs hf h1 tk h2 hb hsu
end
/-- an expression of which nothing is told -/
def eNo : EF := fun _ _ => none
theorem de_no {X : Cx} {z : Zx} {W : WX} {e : Expr} : DE X z W e eNo := by
  refine ⟨fun pins s σ H Q I h => ?_⟩
  obtain ⟨p, M, r, o, R, L, e, _⟩ := h
  exact nomatch e
end DI

end

section
set_option Elab.async false
set_option linter.all false
set_option maxRecDepth 100000
set_option maxHeartbeats 4000000
/-! DI10: sorted(..) of ints. -/
namespace DI
open PySem PySem.Spec PyProof.Rows L2
theorem seK_obj {k : Bool} {h : Heap} {l : Addr} {xs : Array Value} (e : SeK k h l xs) : ∃ T o n, (T = "list" ∨ T = "tuple") ∧ h.get? l = some o ∧ o.cls = .type T ∧ o.data = .seq xs n := by
  cases k
  · obtain ⟨o, a, b, n, c⟩ := e
    exact ⟨"list", o, n, .inl rfl, a, b, c⟩
  · obtain ⟨o, a, b, n, c⟩ := e
    exact ⟨"tuple", o, n, .inr rfl, a, b, c⟩
theorem sorted_any {prog : Program} {w : World} {A : Around} {E : Value → Shared → Prop} {s : Shared} {k : Bool} {l : Addr} {vs : List Value} {ltv : Value → Value → Bool} {Q : Value → Shared → Prop} (O : SrtO.Swo ltv) (hl : SeK k s.heap l vs.toArray) (hz : vs.length ≤ sizeLine)
    (hS : 2 ≤ vs.length → ∀ (h₁ : Heap) (a : Addr), SrtO.SortableO prog w A.in1.in1 { s with heap := h₁ } a vs ltv)
    (h : ∀ (h' : Heap) (out : List Value), (∀ b o, s.heap.get? b = some o → h'.get? b = some o) → SrtO.Srtd ltv out → SrtO.Stb ltv out vs → Q (.ref h'.objs.size) { s with heap := sortedHeap (h'.push (seqObj "list" vs.toArray 0)) h'.objs.size vs out.toArray }) :
    wpAny (model prog w) A (call (.builtin "sorted") [.ref l]) Q E s := by
  obtain ⟨T, o, n, hT, ho, hc, hd⟩ := seK_obj hl
  refine Calls.call_function_entry kind_sorted plain_sorted entry_sorted (args_sorted1 _) ?_
  unfold Builtin.«sorted»
  refine wpAny_bind (m := checkCount "sorted" 1 1 _) (wpAny_pure ?_)
  refine wpAny_bind (wpAny_collect_seq l hT ho hc hd (fun h' keep => ?_) (by rw [List.size_toArray]; exact hz))
  have hoL : (h'.push (seqObj "list" vs.toArray 0)).get? h'.objs.size = some (seqObj "list" vs.toArray 0) := Heap.get?_push_size _ rfl
  refine wpAny_bind (wpAny_newList ?_ hz)
  show wpAny _ _ _ _ _ { s with heap := h'.push (seqObj "list" vs.toArray 0) }
  refine wpAny_bind (wpAny_holding (wpAny_call_entry slot_list_sort ⟨_, hoL, rfl⟩ entry_list_sort (SrtO.list_sort_ord O hoL hz (fun h2 => hS h2 _ _) fun out hs hb => ⟨_, rfl, ?_⟩) (args_list_sort _)))
  exact wpAny_pure ⟨_, rfl, h h' out keep hs hb⟩
def rSorted1 (K : PySem.W.Frag) : List V → Hp → VK → Prop := fun vs H Q => ∃ (k : Bool) (a : Addr) (ns : List Int), vs = [V.ref a] ∧ SqK K k H a (ns.map V.int) ∧ ns.length ≤ 16777216 ∧
  ∀ (ns' : List Int) (p : Addr), ns'.Perm ns → ns'.Pairwise (· ≤ ·) → H p = none → Q (.ref p) (upd H p (.lst (ns'.map V.int)))
theorem cr_sorted1 {X : Cx} : CallR X (.builtin "sorted") (rSorted1 X.K) := by
  intro pins s σ H vs us Q I r h
  obtain ⟨k, a, ns, rfl, hs, hz, q⟩ := h
  obtain ⟨⟨its, rv, hl⟩, la, _⟩ := sqK I hs
  rw [Vals.ref1 r]
  have hi := rv.ints
  have hlen : its.length ≤ sizeLine := by rw [← rv.length, List.length_map]; exact line_eq hz
  refine sorted_any SrtO.swo_int hl hlen (fun h2 h₁ a' => SrtO.ints_sortable hi h2) fun h' out keep h1 h2 => ?_
  obtain ⟨k1, k2, k3⟩ := SrtO.ints_out hi h1 h2
  have hn : s.heap.get? h'.objs.size = none := by
    cases e : s.heap.get? h'.objs.size with
    | none => rfl
    | some o => exact absurd (Heap.lt_size (keep _ _ e)) (Nat.lt_irrefl _)
  have hH : H h'.objs.size = none := I.hok.gone hn
  have hoL : (h'.push (seqObj "list" its.toArray 0)).get? h'.objs.size = some (seqObj "list" its.toArray 0) := Heap.get?_push_size _ rfl
  obtain ⟨ep, he'⟩ := sortedHeap_at (out := out.toArray) hoL
  have kp : ∀ b u, s.heap.get? b = some u → (sortedHeap (h'.push (seqObj "list" its.toArray 0)) h'.objs.size its out.toArray).get? b = some u := fun b u e => by
    have hb : @LT.lt Nat _ b h'.objs.size := Heap.lt_size (keep _ _ e)
    rw [sortedHeap_old (a_ne (.inl hb)) (by show @LT.lt Nat _ b (h'.push _).objs.size; rw [Heap.size_push]; omega)]
    exact Heap.get?_push_of_some _ (keep _ _ e)
  have hl2 : ((out.map SrtO.iv).map V.int).length ≤ sizeLine := by
    rw [List.length_map, k2.length_eq]
    exact line_eq hz
  exact ⟨.ref _, upd H h'.objs.size (.lst ((out.map SrtO.iv).map V.int)), I.laidN (t' := s.toks) kp hn hH ⟨hl2, out, ep, vals_of_ints k1, he'⟩, rfl, q _ _ k2 k3 hH⟩
/-- ascending -/
def sortI (ns : List Int) : List Int := ns.mergeSort fun a b => decide (a ≤ b)
theorem sortI_perm (ns : List Int) : (sortI ns).Perm ns := List.mergeSort_perm _ _
theorem sortI_pair (ns : List Int) : (sortI ns).Pairwise (· ≤ ·) := by
  have := List.pairwise_mergeSort (le := fun a b : Int => decide (a ≤ b)) (fun a b c h1 h2 => by simp at *; omega) (fun a b => by simp; omega) ns
  exact this.imp fun h => by simpa using h
theorem sort_uniq : ∀ {xs ys : List Int}, xs.Perm ys → xs.Pairwise (· ≤ ·) → ys.Pairwise (· ≤ ·) → xs = ys
  | [], ys, h, _, _ => (List.Perm.nil_eq h).symm ▸ rfl
  | x :: xs, [], h, _, _ => absurd h.length_eq (by simp)
  | x :: xs, y :: ys, h, h1, h2 => by
    rw [List.pairwise_cons] at h1 h2
    have e : x = y := by
      have m1 : x ∈ y :: ys := h.mem_iff.mp List.mem_cons_self
      have m2 : y ∈ x :: xs := h.mem_iff.mpr List.mem_cons_self
      rcases List.mem_cons.mp m1 with q | q
      · exact q
      · rcases List.mem_cons.mp m2 with q2 | q2
        · exact q2.symm
        · have := h2.1 x q
          have := h1.1 y q2
          omega
    subst e
    rw [sort_uniq (List.Perm.cons_inv h) h1.2 h2.2]
def sortedG : D → Hd → Option (Rs D) := fun d M => match sqD d M with
  | some (ds, _) => (match ds.mapM intOf with
    | some ns => if ns.length ≤ 16777216 then some (.ok (.ref M.length) (M ++ [.lst ((sortI ns).map D.int)])) else none
    | _ => Option.none)
  | _ => Option.none
theorem reps_of_ints {K : PySem.W.Frag} {p : List Addr} {H : Hp} : ∀ (ns : List Int), Reps K p H (ns.map D.int) (ns.map V.int)
  | [] => reps_nil
  | n :: ns => reps_cons rep_int (reps_of_ints ns)
theorem de_sorted {X : Cx} {z : Zx} {W : WX} {e : Expr} {f : EF} {pos p' : Pos} (ha : DE X z W e f) (hm : X.mg "sorted" = Option.none) (hg : Gl X "sorted" := by rfl) (he : starEach [e] X.env = (false, eval e X.env) :: starEach [] X.env := by rfl) : DE X z W (.Call (.Name "sorted" p') [e] [] pos) (eUn sortedG f) := by
  refine (pe_callB cr_sorted1 hg hm PyProof.Rows.boot_sorted (pa_cons ha pa_nil he) (he := he)).imp ?_
  rintro σ H Q ⟨p, M, ρ, o, R, L, e, po⟩
  refine gE_bnd R L e po fun d M1 p1 H1 v R1 L1 hl1 hp1 q1 e1 po1 => ?_
  unfold sortedG at e1
  split at e1
  · rename_i ds g hd
    split at e1
    · rename_i ns hn
      split at e1
      · rename_i hl
        cases e1
        obtain ⟨a, b, rfl, s1, k1⟩ := sq_of R1 q1 hd
        obtain ⟨vs, r, s⟩ := k1 p1 M1 H1 (List.prefix_refl _) (Le.refl _) R1 s1
        have := reps_ints r hn
        subst this
        refine ⟨b, a, ns, rfl, s, hl, fun ns' q hp hs hq => ?_⟩
        rw [sort_uniq (hp.trans (sortI_perm ns).symm) hs (sortI_pair ns)]
        exact po_lst R1 po1 (reps_of_ints _) q hq
      · cases e1
    · cases e1
  · cases e1
end DI

end

section
set_option Elab.async false
set_option linter.all false
set_option maxRecDepth 100000
set_option maxHeartbeats 4000000
/-! DI11: range(a, b, -1). -/
namespace DI
open PySem PySem.Spec PyProof.Rows L2
def downD (lo : Int) (n : Nat) : List D := (List.range n).map fun (i : Nat) => D.int (lo + (i : Int) * (-1))
noncomputable def rngD (f g h : EF) : IF := fun r M => bnd (f r M) fun d M1 => bnd (g r M1) fun e M2 => bnd (h r M2) fun c M3 => match d, e, c with
  | .int a, .int b, .int (-1) => if Sm a ∧ Sm b then some (.ok (downD a (a - b).toNat, []) M3) else none
  | _, _, _ => none
section
variable {X : Cx} {z : Zx} {W : WX} {a b c e tg : Expr} {fa fb fc f : EF} {pos : Pos}
theorem itc_ok {k : Kx} {p : List Addr} {H : Hp} {lo : Int} {n : Nat} : ItOk k p H (downD lo n, []) (Itc lo (-1) n) := by
  intro i p' M' H' hp hl R S
  refine ⟨fun d e => ?_, fun e => ?_⟩
  · unfold downD at e
    dsimp only at e
    rw [List.getElem?_map] at e
    by_cases hi : i < n
    · rw [List.getElem?_range hi] at e
      cases e
      refine ⟨hi, fun v H2 y => ?_⟩
      obtain ⟨rfl, rfl⟩ := y
      exact ⟨Le.refl _, R, rep_int⟩
    · rw [List.getElem?_eq_none (by simpa using hi)] at e
      cases e
  · have e : i = (downD lo n).length := e
    unfold downD at e
    rw [List.length_map, List.length_range] at e
    exact Nat.le_of_eq e.symm
theorem di_rngD {p' : Pos} (ha : DE X z W a fa) (hb : DE X z W b fb) (hc : DE X z W c fc) (hm : X.mg "range" = none) (hg : Gl X "range" := by rfl) (hs : starEach [a, b, c] X.env = (false, eval a X.env) :: starEach [b, c] X.env := by rfl)
    (hs2 : starEach [b, c] X.env = (false, eval b X.env) :: starEach [c] X.env := by rfl) (hs3 : starEach [c] X.env = (false, eval c X.env) :: starEach [] X.env := by rfl) (hpl : (backTo pos (starEach [b, c] X.env)).any (·.1) = false := by rfl) :
    DI_ X z W tg (.Call (.Name "range" p') [a, b, c] [] pos) (rngD fa fb fc) := by
  refine (pi_range3 hg hm (pa_cons ha (pa_cons hb (pa_cons hc pa_nil hs3) hs2) hs) hs hpl).imp ?_
  rintro σ H Q ⟨p, M, ρ, o, R, L, e, po⟩
  refine gE_bnd R L e po fun d M1 p1 H1 v R1 L1 hl1 hp1 q1 e1 po1 => ?_
  refine gE_bnd R1 L1 e1 po1 fun d2 M2 p2 H2 v2 R2 L2 hl2 hp2 q2 e2 po2 => ?_
  refine gE_bnd R2 L2 e2 po2 fun d3 M3 p3 H3 v3 R3 L3 hl3 hp3 q3 e3 po3 => ?_
  split at e3
  · rename_i x y
    split at e3
    · rename_i hsm
      cases e3
      unfold Rep at q1 q2 q3
      subst q1 q2 q3
      exact ⟨x, y, -1, _, rfl, RgC.neg hsm.1.1 hsm.1.2 hsm.2.1 hsm.2.2, po3.ok R3 itc_ok⟩
    · cases e3
  · cases e3
end
end DI

end

section
set_option Elab.async false
set_option linter.all false
set_option maxRecDepth 100000
set_option maxHeartbeats 4000000
/-! DI12: a module's dict of text keys asked by get; in and not in of flat items. -/
namespace DI
open PySem PySem.Spec PyProof.Rows L2

/-- the head's facts, tables with text keys, one test more -/
def hookR (n : Nat) (fa : List He.Fa) (fn : List He.DefD) (ts : List He.Tab) (ex : PySem.W.Frag → Bool) : PySem.W.Hook where
  α := He.AlT × Bool
  obs := fun s => (He.obsT fa fn ts (He.frG s.heap.get? (He.asD s.heap.get? n)), ex (He.frG s.heap.get? (He.asD s.heap.get? n)))
  val := fun w => (He.valT fn ts w, true)
  says := fun w h => ∃ K : PySem.W.Frag, K.In h ∧ He.SaysT fa fn ts w K ∧ ex K = true
  of := fun _ _ e => ⟨_, He.frG_in, congrArg Prod.fst e, congrArg Prod.snd e⟩
  keeps := fun _ _ _ ⟨K, hK, c⟩ k => ⟨K, PySem.W.Frag.In.keeps hK k, c⟩
def obR (n : Nat) (fa : List He.Fa) (fn : List He.DefD) (ts : List He.Tab) (ex : PySem.W.Frag → Bool) (g : Addr → Option Obj) : He.AlT × Bool := (He.obsT fa fn ts (He.frG g (He.asD g n)), ex (He.frG g (He.asD g n)))
theorem obR_eq {n : Nat} {fa : List He.Fa} {fn : List He.DefD} {ts : List He.Tab} {ex : PySem.W.Frag → Bool} {g : Addr → Option Obj} {s : Shared} (h : ∀ a, g a = s.heap.get? a) : obR n fa fn ts ex g = (hookR n fa fn ts ex).obs s := by
  have e : g = s.heap.get? := funext h
  rw [e]
  rfl
theorem dicW_keys {K : PySem.W.Frag} {P : Params} {a : Addr} {ks : List Str} {es : Array DictEntry} {n : Nat} (h : He.dicW K a = some (He.keysIn P ks)) (hl : K.lookup a = some ⟨.type "dict", none, .dict es n, #[]⟩) : es.toList.map He.keyOf = He.keysIn P ks := by
  unfold He.dicW at h
  rw [hl] at h
  dsimp only at h
  split at h
  · exact Option.some.inj h
  · cases h
theorem tab_at {fa : List He.Fa} {fn : List He.DefD} {ts : List He.Tab} {w : World} {K : PySem.W.Frag} (c : He.SaysT fa fn ts w K) (i : Nat) {t : He.Tab} (h : ts[i]? = some t := by rfl) : He.dicW K (t.1 K) = some (He.keysIn w.params t.2) := by
  have e : ts.map (fun t => He.dicW K (t.1 K)) = ts.map fun t => some (He.keysIn w.params t.2) := congrArg (fun z : He.AlT => z.2) c
  have e2 : (ts.map fun t => He.dicW K (t.1 K))[i]? = (ts.map fun t => some (He.keysIn w.params t.2))[i]? := by rw [e]
  rw [List.getElem?_map, List.getElem?_map, h] at e2
  exact Option.some.inj e2
theorem find_none {P : Params} {z : Str} : ∀ {l : List DictEntry} {ks : List Str}, l.map He.keyOf = He.keysIn P ks → z ∉ ks → l.find? (·.key.isStr z) = none ∧ l.any (·.refKey) = false
  | [], _, _, _ => ⟨rfl, rfl⟩
  | e :: r, [], h, _ => by cases h
  | e :: r, k :: ks, h, hz => by
    have h1 : He.keyOf e :: r.map He.keyOf = some (k, PyData.keyHash P k) :: He.keysIn P ks := h
    injection h1 with h2 h3
    obtain ⟨i1, i2⟩ := find_none h3 fun q => hz (List.mem_cons_of_mem _ q)
    unfold He.keyOf at h2
    split at h2
    · rename_i x t q
      have h4 := Option.some.inj h2
      obtain ⟨h5, h6⟩ := Prod.mk.inj h4
      subst h5
      have hn : e.key.isStr z = false := by
        rw [q]
        exact beq_eq_false_iff_ne.mpr fun hh => hz (by rw [hh]; exact List.mem_cons_self)
      have hr : e.refKey = false := by unfold DictEntry.refKey; rw [q]
      exact ⟨by rw [List.find?_cons, hn]; exact i1, by rw [List.any_cons, hr]; exact i2⟩
    · cases h2
/-- a module's dict: text keys, ints -/
structure Tbl (K : PySem.W.Frag) (w : World) (mg : Str → Option Value) (x : Str) (kvs : List (Str × Int)) : Prop where
  ex : ∃ a es n, mg x = some (.ref a) ∧ KDict K w a es n ∧ ∀ z, match kvs.lookup z with
    | some i => ∃ u, PySem.W.nsIn K a z = some (some u) ∧ RelV (.int i) u
    | none => PySem.W.nsIn K a z = some none
def intsB (K : PySem.W.Frag) (a : Addr) (kvs : List (Str × Int)) : Bool := kvs.all fun q => match PySem.W.nsIn K a q.1 with
  | some (some (.int i _)) => i == q.2
  | _ => false
theorem intsB_ok {K : PySem.W.Frag} {a : Addr} {kvs : List (Str × Int)} (h : intsB K a kvs = true) {q : Str × Int} (hq : q ∈ kvs) : ∃ u, PySem.W.nsIn K a q.1 = some (some u) ∧ RelV (.int q.2) u := by
  have h2 := List.all_eq_true.mp h q hq
  split at h2
  · rename_i i t e
    refine ⟨_, e, t, ?_⟩
    rw [eq_of_beq h2]
  · cases h2
theorem lookup_mem' {z : Str} {i : Int} : ∀ {l : List (Str × Int)}, l.lookup z = some i → (z, i) ∈ l
  | [], h => nomatch h
  | (x, y) :: l, h => by
    rw [List.lookup_cons] at h
    by_cases e : z == x
    · rw [e] at h
      cases h
      rw [eq_of_beq e]
      exact List.mem_cons_self
    · rw [Bool.not_eq_true] at e
      rw [e] at h
      exact List.mem_cons_of_mem _ (lookup_mem' h)
theorem lookup_none' {z : Str} : ∀ {l : List (Str × Int)}, l.lookup z = none → z ∉ l.map (·.1)
  | [], _ => by simp
  | (x, y) :: l, h => by
    rw [List.lookup_cons] at h
    by_cases e : z == x
    · rw [e] at h; cases h
    · rw [Bool.not_eq_true] at e
      rw [e] at h
      rw [List.map_cons, List.mem_cons]
      rintro (q | q)
      · rw [q] at e; simp at e
      · exact lookup_none' h q
theorem tbl_of {K : PySem.W.Frag} {w : World} {mg : Str → Option Value} {x : Str} {kvs : List (Str × Int)} (h : mg x = some (.ref (He.ga K x))) (hd : He.dicW K (He.ga K x) = some (He.keysIn w.params (kvs.map (·.1)))) (hv : intsB K (He.ga K x) kvs = true) : Tbl K w mg x kvs := by
  obtain ⟨es, n, D⟩ := He.dicW_ok hd
  refine ⟨_, es, n, h, D, fun z => ?_⟩
  cases e : kvs.lookup z with
  | some i => exact intsB_ok hv (lookup_mem' e)
  | none =>
    obtain ⟨f1, f2⟩ := find_none (z := z) (dicW_keys hd D.at_) (lookup_none' e)
    show PySem.W.nsIn K (He.ga K x) z = some none
    unfold PySem.W.nsIn
    rw [D.at_]
    dsimp only
    rw [f1, f2]
    rfl
def getC (kvs : List (Str × Int)) (fa : EF) : EF := fun r M => bnd (fa r M) fun x M1 => match x with
  | .str z => some (.ok (match kvs.lookup z with
    | some i => .int i
    | none => .non) M1)
  | _ => none
theorem de_getC {X : Cx} {z : Zx} {W : WX} {e : Expr} {fa : EF} {x : Str} {kvs : List (Str × Int)} {np apos cpos : Pos} (T : Tbl X.K X.w X.mg x kvs) (ha : DE X z W e fa) (hg : Gl X x := by rfl) (hdb : (x == ("__debug__" : Str)) = false := by decide) (m : M1 X (.Name x np) "get" apos e cpos := by exact ⟨rfl, rfl, rfl, rfl⟩) :
    DE X z W (.Call (.Attribute (.Name x np) "get" apos) [e] [] cpos) (getC kvs fa) := by
  obtain ⟨a, es, n, h1, Dk, h2⟩ := T.ex
  refine ⟨fun pins s σ H Q I h => ?_⟩
  obtain ⟨p, M, r, o, R, L, ee, po⟩ := h
  refine wpAny_Call_method m.base m.few m.line PySem.F.plainAttrs_dict PySem.F.slot_dict_get PySem.F.type_dict_get (thn ((pe_glob (v := .ref a) hg h1 rfl hdb).run pins s σ H (fun v H1 => v = .ref a ∧ H1 = H) I ⟨rfl, rfl⟩) fun u s1 ⟨x1, H1, I1, rx, ex, eh⟩ => ?_)
  subst ex
  subst eh
  obtain rfl : u = Value.ref a := rx
  refine ⟨kd_type Dk I1, fun b hb => ?_, ?_⟩
  · cases hb
    exact ⟨_, I1.kIn _ _ Dk.at_, rfl⟩
  rw [m.trees]
  refine Calls.callWith_builtin rfl (Calls.evalArgs_plain (Calls.spliced_cons (thn (ha.run pins s1 σ H1 (fun y H2 => ∃ z0 v0, y = .str z0 ∧ (match kvs.lookup z0 with | some i => v0 = V.int i | none => v0 = V.non) ∧ Q v0 H2) I1 ?_) fun iv s2 ⟨y, H2, I2, ry, z0, v0, ey, hv, q2⟩ => Calls.spliced_nil ?_)))
  · refine gE_bnd R L ee po fun d M1 p1 H2 v R1 L1 hl1 hp1 q1 e1 po1 => ?_
    cases d with
    | str z0 =>
      unfold Rep at q1
      subst q1
      dsimp only at e1
      cases e1
      cases hk : kvs.lookup z0 with
      | some i => 
        rw [hk] at po1
        exact ⟨z0, .int i, rfl, by rw [hk], po1.ok R1 rep_int⟩
      | none => 
        rw [hk] at po1
        exact ⟨z0, .non, rfl, by rw [hk], po1.ok R1 rep_non⟩
    | _ => cases e1
  subst ey
  obtain ⟨t, rfl⟩ := ry
  refine call_meetsIn PySem.F.slot_dict_get (kd_type Dk I2) PySem.F.entry_dict_get (PySem.F.args_dict_get_2 _ _) (meets_dict_get (strKind X.prog X.w) a (PySem.strKind_is X.prog X.w z0 t) Dk.low) ⟨_, PySem.W.mapOf_K (prog := X.prog) I2.kIn Dk.at_ Dk.lit, ?_⟩
  have hz := h2 z0
  cases hk : kvs.lookup z0 with
  | some i =>
    rw [hk] at hz hv
    obtain ⟨u0, n1, n2⟩ := hz
    subst hv
    rw [PySem.W.find_K Dk.at_ n1]
    exact ⟨_, H2, I2.tok _, n2, q2⟩
  | none =>
    rw [hk] at hz hv
    subst hv
    rw [PySem.W.find_K Dk.at_ hz]
    exact ⟨V.non, H2, I2.tok _, (rfl : Value.none = Value.none), q2⟩

/-! ### in, not in of flat items -/
def D.flat : D → Bool
  | .non => true
  | .bl _ => true
  | .int _ => true
  | .str _ => true
  | _ => false
def eqF : D → D → Bool
  | .non, .non => true
  | .bl a, .bl b => a == b
  | .bl a, .int b => (if a then 1 else 0) == b
  | .int a, .bl b => a == (if b then 1 else 0)
  | .int a, .int b => a == b
  | .str a, .str b => a == b
  | _, _ => false
theorem rep_flat {K : PySem.W.Frag} {p : List Addr} {H : Hp} {d : D} {v : V} (h : Rep K p H d v) (f : d.flat = true) : flatV v = true := by
  cases d <;> first | (cases f; done) | (unfold Rep at h; subst h; rfl)
theorem rep_eqF {K : PySem.W.Frag} {p : List Addr} {H : Hp} {d e : D} {v u : V} (h : Rep K p H d v) (k : Rep K p H e u) (f : d.flat = true) (g : e.flat = true) : eqV v u = eqF d e := by
  cases d <;> first | (cases f; done) | (unfold Rep at h; subst h; cases e <;> first | (cases g; done) | (unfold Rep at k; subst k; rfl))
theorem reps_flat {K : PySem.W.Frag} {p : List Addr} {H : Hp} : ∀ {ds : List D} {vs : List V}, Reps K p H ds vs → ds.all D.flat = true → vs.all flatV = true
  | [], vs, h, _ => by unfold Reps at h; subst h; rfl
  | d :: ds, vs, h, f => by
    unfold Reps at h
    obtain ⟨v, ws, rfl, h1, h2⟩ := h
    rw [List.all_cons, Bool.and_eq_true] at f ⊢
    exact ⟨rep_flat h1 f.1, reps_flat h2 f.2⟩
theorem reps_inV {K : PySem.W.Frag} {p : List Addr} {H : Hp} {e : D} {u : V} (k : Rep K p H e u) (g : e.flat = true) : ∀ {ds : List D} {vs : List V}, Reps K p H ds vs → ds.all D.flat = true → inV u vs = ds.any fun y => eqF y e
  | [], vs, h, _ => by unfold Reps at h; subst h; rfl
  | d :: ds, vs, h, f => by
    unfold Reps at h
    obtain ⟨v, ws, rfl, h1, h2⟩ := h
    rw [List.all_cons, Bool.and_eq_true] at f
    have ih := reps_inV k g h2 f.2
    unfold inV at ih ⊢
    rw [List.any_cons, List.any_cons, ih, rep_eqF h1 k f.1 g]
def inG (neg : Bool) : G2 := fun x y M => match itemsD y M with
  | some ds => if x.flat && ds.all D.flat then some (.ok (.bl (if neg then !(ds.any fun z => eqF z x) else ds.any fun z => eqF z x)) M) else none
  | none => none
theorem od_in {k : Kx} {neg : Bool} : OD k (rIn k.K neg) (inG neg) := by
  intro p M H x y v u o Q W σ R rx ry e po
  unfold inG at e
  split at e
  · rename_i ds hi
    split at e
    · rename_i hf
      rw [Bool.and_eq_true] at hf
      cases e
      obtain ⟨a, vs, rfl, h1, h2⟩ := rep_items R ry hi
      refine ⟨a, vs, rfl, h1, rep_flat rx hf.1, reps_flat h2 hf.2, ?_⟩
      rw [reps_inV rx hf.1 h2 hf.2]
      exact po.ok R rep_bl
    · cases e
  · cases e
end DI

end

section
set_option Elab.async false
set_option linter.all false
set_option maxRecDepth 100000
set_option maxHeartbeats 4000000
/-! DI13: isinstance of the exception that is held, asked of a written tuple of own classes. -/
namespace DI
open PySem PySem.Spec PyProof.Rows L2
def tRefs (Cs : List Addr) : TA := fun _ H Q => Q (Cs.map V.ref) H
structure IsT (K : PySem.W.Frag) (mg : Str → Option Value) (cs : List Str) (tbl : Str → Option Bool) : Prop where
  gl : ∀ (i : Nat) c, cs[i]? = some c → mg c = some (.ref (He.ga K c))
  ex : ∀ d b D, tbl d = some b → mg d = some (.ref D) → ExcC K D ∧ PySem.W.kitAny K (.ref D) (cs.map fun c => .ref (He.ga K c)) = some b
section
variable {X : Cx} {es : List Expr} {c : Str} {C : Addr} {Cs : List Addr} {p : Pos}
theorem pr_nil : PA X [] (tRefs []) := ⟨fun pos pins s σ H Q I h => pa_nil.run pos pins s σ H Q I h⟩
theorem pr_cons (h : X.mg c = some (.ref C)) (r : PA X es (tRefs Cs)) (hg : Gl X c := by rfl) (hdb : (c == ("__debug__" : Str)) = false := by decide) (hs : starEach (.Name c p :: es) X.env = (false, eval (.Name c p) X.env) :: starEach es X.env := by rfl) : PA X (.Name c p :: es) (tRefs (C :: Cs)) :=
  (pa_cons (pe_glob (v := .ref C) hg h rfl hdb) r hs).imp fun σ H Q q => q
end
def rIsT (K : PySem.W.Frag) (D a : Addr) : List V → Hp → VK → Prop := fun xs H Q => ∃ (tp : Addr) (Cs : List Addr) (b : Bool), xs = [.ref a, .ref tp] ∧ SqT K H tp (Cs.map V.ref) ∧ PySem.W.kitAny K (.ref D) (Cs.map Value.ref) = some b ∧ Q (.bl b) H
theorem vals_refs : ∀ {Cs : List Addr} {its : List Value}, Vals (Cs.map V.ref) its → its = Cs.map Value.ref
  | [], its, h => by cases h; rfl
  | C :: Cs, its, h => by
    cases h with
    | cons r rr =>
      cases (show _ = Value.ref C from r)
      rw [List.map_cons, vals_refs rr]
theorem call_isT {X : Cx} {a D : Addr} {oe : Obj} {pn : List (Addr × Obj)} (C : ExcC X.K D) (hz : Zc (.ref D) none oe) (hf : ∃ vs, oe.data = .fields vs) : CallR (X.suite a ((a, oe) :: pn)) (.builtin "isinstance") (rIsT X.K D a) := by
  intro pins s σ H xs us Q I r h
  obtain ⟨tp, Cs, b, rfl, hq, e, q⟩ := h
  cases r with
  | cons rx rr =>
    cases rr with
    | cons rt rr =>
      cases rr
      cases rx
      cases rt
      obtain ⟨hget, _⟩ := I.pin (a, oe) (List.mem_append.mpr (.inl List.mem_cons_self))
      obtain ⟨vs, hv⟩ := hf
      have J : PySem.W.InstAt s.heap a oe D none := by
        obtain ⟨oc, od, oda, osl⟩ := oe
        obtain ⟨h1, h2⟩ := hz
        dsimp only at h1 h2 hv
        subst h1 h2 hv
        exact ⟨hget, rfl, rfl, trivial⟩
      obtain ⟨its, rv, ⟨o, h1, h2, n, h3⟩, _⟩ := I.tuple hq
      have hi := vals_refs rv
      subst hi
      obtain ⟨oc, od, oda, osl⟩ := o
      dsimp only at h2 h3
      subst h2 h3
      exact PySem.W.kia_tup (PySem.W.handS_kitx_exc C.hg C.hk C.hs C.hd C.ha C.hn C.ht C.hm) I.kIn J h1 e (fun z => nomatch z) fun tk => ⟨.bl b, H, I.kept (t' := tk) fun _ _ z => z, rfl, q⟩
section
variable {X : Cx} {a D : Addr} {oe : Obj} {pn : List (Addr × Obj)} {dn n : Str} {i : Nat} {cs : List Str} {es : List Expr} {tbl : Str → Option Bool} {p' p1 p2 pos : Pos} {W : WX} {x1 : Nat}
theorem de_isT (F : IsT X.K X.mg cs tbl) (hm : X.mg dn = some (.ref D)) (hz : Zc (.ref D) none oe) (hf : ∃ vs, oe.data = .fields vs) (hmi : X.mg "isinstance" = none) (hcl : cs.length ≤ 1000) (hp : PA (X.suite a ((a, oe) :: pn)) es (tRefs (cs.map (He.ga X.K)))) (hg : Gl X "isinstance" := by rfl)
    (hN : X.N[i]? = some n := by rfl) (hv : Vis X.env.scope n := by first | exact Or.inl rfl | exact Or.inr (Or.inl rfl) | exact Or.inr (Or.inr rfl)) (hd1 : (n == ("__debug__" : Str)) = false := by decide) (hd2 : (n == ("__classdict__" : Str)) = false := by decide)
    (he : starEach [.Name n p1, .Tuple es x1 p2] X.env = (false, eval (.Name n p1) X.env) :: starEach [.Tuple es x1 p2] X.env := by rfl) (hpl : (backTo pos (starEach [.Tuple es x1 p2] X.env)).any (·.1) = false := by rfl) (he2 : starEach [.Tuple es x1 p2] X.env = (false, eval (.Tuple es x1 p2) X.env) :: starEach [] X.env := by rfl) :
    DE (X.suite a ((a, oe) :: pn)) (some (a, i)) W (.Call (.Name "isinstance" p') [.Name n p1, .Tuple es x1 p2] [] pos) (eIsE i (tbl dn)) := by
  have nv : PE (X.suite a ((a, oe) :: pn)) (.Name n p1) _ := pe_var (i := i) hN hv hd1 hd2
  have cv : PE (X.suite a ((a, oe) :: pn)) (.Tuple es x1 p2) _ := pe_tup hp
  cases ht : tbl dn with
  | none =>
    refine ⟨fun pins s σ H Q I h => ?_⟩
    obtain ⟨q, M, r, o, R, L, e, po⟩ := h
    unfold eIsE at e
    split at e <;> cases e
  | some b =>
    obtain ⟨ec, kt⟩ := F.ex dn b D ht hm
    refine (pe_callB (X := X.suite a ((a, oe) :: pn)) (call_isT ec hz hf) hg hmi PyProof.Rows.boot_isinstance (pa_cons nv (pa_cons cv pa_nil he2) he) (he := he) (hpl := hpl)).imp ?_
    rintro σ H Q ⟨q, M, r, o, R, L, e, po⟩
    unfold eIsE at e
    split at e
    · rename_i hr
      cases e
      refine ⟨.ref a, L.ex a i rfl hr, ?_, fun tp htp => ⟨tp, cs.map (He.ga X.K), b, rfl, ?_, ?_, ?_⟩⟩
      · rw [List.length_map, List.length_map]
        exact line_eq (by omega)
      · exact SqT.of upd_same
      · rw [List.map_map]
        exact kt
      · exact po q _ _ (List.prefix_refl q) (Le.new htp) (R.other htp) rep_bl
    · cases e
end
/-! ### the head's part -/
def kitT (K : PySem.W.Frag) (x : Str) (cs : List Str) (b : Bool) : Bool := decide (PySem.W.kitAny K (.ref (He.ga K x)) (cs.map fun c => .ref (He.ga K c)) = some b)
theorem kitT_ok {K : PySem.W.Frag} {x : Str} {cs : List Str} {b : Bool} (h : kitT K x cs b = true) : PySem.W.kitAny K (.ref (He.ga K x)) (cs.map fun c => .ref (He.ga K c)) = some b := of_decide_eq_true h
theorem isT_of {K : PySem.W.Frag} {mg : Str → Option Value} {cs : List Str} {l : List (Str × Bool)} (h : ∀ c ∈ cs, mg c = some (.ref (He.ga K c))) (hl : ∀ p ∈ l, mg p.1 = some (.ref (He.ga K p.1)) ∧ ExcC K (He.ga K p.1) ∧ PySem.W.kitAny K (.ref (He.ga K p.1)) (cs.map fun c => .ref (He.ga K c)) = some p.2) : IsT K mg cs (tblOf l) := by
  refine ⟨fun i c e => h c (List.mem_of_getElem? e), fun d b D ht hm => ?_⟩
  obtain ⟨h1, h2⟩ := hl _ (tblOf_mem ht)
  rw [h1] at hm
  cases hm
  exact h2
end DI

end

section
set_option Elab.async false
set_option linter.all false
set_option maxRecDepth 100000
set_option maxHeartbeats 4000000
/-! DI14: a list so many times. -/
namespace DI
open PySem PySem.Spec PyProof.Rows L2
def repG : G2 := fun x y M => match x, y with
  | .ref i, .int k => (match M[i]? with
    | some (.lst ds) => if 0 ≤ k ∧ k ≤ 100000 ∧ ds.length * k.toNat ≤ 16777216 then some (.ok (.ref M.length) (M ++ [.lst (List.replicate k.toNat ds).flatten])) else none
    | _ => none)
  | _, _ => none
theorem reps_flat_rep {K : PySem.W.Frag} {p : List Addr} {H : Hp} {ds : List D} {vs : List V} (h : Reps K p H ds vs) : ∀ (n : Nat), Reps K p H (List.replicate n ds).flatten (List.replicate n vs).flatten
  | 0 => reps_nil
  | n + 1 => by
    rw [List.replicate_succ, List.replicate_succ, List.flatten_cons, List.flatten_cons]
    exact reps_app h (reps_flat_rep h n)
theorem od_rep {k : Kx} : OD k rRep repG := by
  intro p M H x y v u o Q W σ R rx ry e po
  unfold repG at e
  split at e
  · rename_i i j
    split at e
    · rename_i ds ho
      split at e
      · rename_i hk
        cases e
        obtain ⟨a, vs, rfl, ha, hh, r0⟩ := rep_lst R rx ho
        unfold Rep at ry
        subst ry
        refine ⟨a, j, vs, rfl, rfl, hh, by omega, by omega, ?_, po_lst R po (reps_flat_rep r0 _)⟩
        rw [← reps_len r0]
        exact line_eq hk.2.2
      · cases e
    · cases e
  · cases e
end DI

end

section
set_option Elab.async false
set_option linter.all false
set_option maxRecDepth 100000
set_option maxHeartbeats 4000000
/-! DI15: a try with several clauses that name the exception, all by one name. -/
namespace DI
open PySem PySem.Spec PyProof.Rows L2

/-- a clause: the class that it names, and what its suite does -/
structure Kl where
  c : Value
  ts : Addr → Value → Option Addr → TS
/-- what stands behind a suite: slot i is empty there -/
def emptied (i : Nat) (D : Ends) : Ends where
  nx := fun σ H => D.nx (σ.set i none) H
  rt := D.rt
  bk := fun σ H => D.bk (σ.set i none) H
  ct := fun σ H => D.ct (σ.set i none) H
/-- the first clause that takes it is the one -/
def picks (K : PySem.W.Frag) (i : Nat) (W : WX) (D : Ends) : List Kl → WX
  | [] => W
  | k :: l => fun cls d σ H =>
    (PySem.W.exmOne K cls k.c = some true ∧ ∀ a, H a = none → k.ts a cls d (emptied i D) (σ.set i (some (.ref a))) H)
    ∨ (PySem.W.exmOne K cls k.c = some false ∧ picks K i W D l cls d σ H)
/-- clauses as they stand in the text -/
inductive Klauses (X : Cx) (n : Str) : List ExceptHandler → List Kl → Prop
  | nil : Klauses X n [] []
  | cons {x : Str} {k : Kl} {b : Stmt} {bs : List Stmt} {p q : Pos} {hds : List ExceptHandler} {l : List Kl} (hc : Names X x k.c)
      (su : ∀ (a : Addr) (oe : Obj) (cls : Value) (d : Option Addr) (pn : List (Addr × Obj)), Zc cls d oe → (∃ vs, oe.data = .fields vs) → PSs (X.suite a ((a, oe) :: pn)) (b :: bs) (k.ts a cls d))
      (more : Klauses X n hds l) : Klauses X n (.ExceptHandler (some (.Name x p)) (some n) (b :: bs) q :: hds) (k :: l)

section
variable {X : Cx} {n : Str} {i : Nat} {W : WX} {D : Ends}
/-- an object with fields is no frame -/
theorem apart {B h : Heap} {l : List Env} {a : Addr} {Z : Obj → Prop} (fl : HandSPX.FlyingZ B l a Z h) : a ∉ frs l := fun hm => by
  obtain ⟨o, vs, e1, _, e2⟩ := fl.there
  obtain ⟨_, o', e3, no⟩ := fl.2.2.1.mem hm
  exact no vs ((Option.some.inj (e3.symm.trans e1)) ▸ e2)
/-- the class's name is read -/
theorem name_read {pins : List (Addr × Obj)} {s : Shared} {σ : L2.St} {H : Hp} {x : Str} {c : Value} {p : Pos} {Q : Value → Shared → Prop} {E : Value → Shared → Prop} (I : Inv X pins σ H s) (hc : Names X x c) (q : Q c s) : wpAny (model X.prog X.w) X.A (eval (.Name x p) X.env) Q E s := by
  rcases hc with ⟨h1, h2, h3 | ⟨h4, h5, h6⟩⟩
  · exact ld_glob I h1 h3 q h2
  · exact ld_blt I h1 h4 h5 q h6 h2
theorem klauses_go (hs : X.stack = X.env :: X.outer) (hf : X.env.frame = some X.env.locals) (hN : X.N.Nodup) (hi : X.N[i]? = some n) (hln : X.env.kindOf n = some .local) (tk : Takes X W)
    {a : Addr} {B : Heap} {s0 : Shared} {pins : List (Addr × Obj)} {σ : L2.St} {H : Hp} {cls : Value} {d : Option Addr}
    (J : Inv X pins σ H s0) (old : ∀ b o, s0.heap.get? b = some o → b ∉ frs X.stack → B.get? b = some o) (na : H a = none) {hds : List ExceptHandler} {l : List Kl} (ks : Klauses X n hds l) :
    ∀ {s : Shared}, HandSPX.FlyingZ B (X.env :: X.outer) a (Zc cls d) s.heap → s0.heap.UpToSlots s.heap → s.os = s0.os → AllBare s.gens → picks X.K i W D l cls d σ H →
      wpAny (model X.prog X.w) X.A (handleBy (.ref a) X.env hds) (SP X pins D) X.xe s := by
  induction ks with
  | nil =>
    intro s fl up os ag w
    refine PySem.PX.no_clauseZ hf fl fun h' held up' => tk _ _ ?_
    refine ⟨a, B, s0, pins, σ, H, cls, d, rfl, J, old, up.trans up', ?_, na, os, ag, w⟩
    rw [hs]
    exact .inr (.inr held)
  | @cons x k b bs p q hds l hc su more ih =>
    intro s fl up os ag w
    have I : Inv X pins σ H s := J.landed old fl.1 up os ag
    have nl : a ≠ X.env.locals := fun e => apart fl (List.mem_filterMap.mpr ⟨_, List.mem_cons_self, e ▸ hf⟩)
    have nf : a ∉ X.fs := fun e => apart fl (List.mem_filterMap.mpr (by
      obtain ⟨v, h1, h2⟩ := List.mem_filterMap.mp e
      exact ⟨v, List.mem_cons_of_mem _ h1, h2⟩))
    have test : ∀ {Q : Value → Shared → Prop} {E : Value → Shared → Prop}, Q k.c s → wpAny (model X.prog X.w) (X.A.mark (some (.ref a))) (eval (.Name x p) X.env) Q E s := fun {Q E} hq => by
      obtain ⟨o, vs, e1, _, e2⟩ := fl.there
      exact name_read (X := X.suite a ((a, o) :: (X.pn ++ pins))) (I.suite e1 e2 na nl nf) hc hq
    rcases w with ⟨yes, w⟩ | ⟨no, w⟩
    · refine PySem.PX.clause_asZ I.kIn (fun o z => z.1) fl yes test fun h' fl' up' => ?_
      obtain ⟨o, vs, e1, z, e2⟩ := PySem.PX.FlyingZ.there fl'
      have I' : Inv X pins σ H { s with heap := h' } := J.landed old fl'.1 (up.trans up') os ag
      refine store_ok (X := X.suite a ((a, o) :: (X.pn ++ pins))) (v := .ref a) (I'.suite e1 e2 na nl nf) hN hi (.inl hln) rfl (fun s1 I1 => ?_) (.inr hln)
      refine wpAny_mono ((su a o cls d (X.pn ++ pins) z ⟨vs, e2⟩).run [] s1 _ H _ I1 (w a na)) ?_ (fun _ _ f => f.elim)
      intro f s2 h2
      cases f with
      | ret u =>
        obtain ⟨v, σ2, H2, I2, r, po⟩ := h2
        exact gone_ok (I2.unsuite J.ok) hN hi hln fun s3 I3 => ⟨v, _, H2, I3, r, po⟩
      | next =>
        obtain ⟨σ2, H2, I2, po⟩ := h2
        exact gone_ok (I2.unsuite J.ok) hN hi hln fun s3 I3 => ⟨_, H2, I3, po⟩
      | brk =>
        obtain ⟨σ2, H2, I2, po⟩ := h2
        exact gone_ok (I2.unsuite J.ok) hN hi hln fun s3 I3 => ⟨_, H2, I3, po⟩
      | cont =>
        obtain ⟨σ2, H2, I2, po⟩ := h2
        exact gone_ok (I2.unsuite J.ok) hN hi hln fun s3 I3 => ⟨_, H2, I3, po⟩
    · exact PySem.PX.clause_passZ I.kIn (fun o z => z.1) fl no test (ih fl up os ag w)
theorem ps_tryN {body : List Stmt} {h₀ : ExceptHandler} {hds : List ExceptHandler} {l : List Kl} {pos : Pos} {tb : WX → TS} (hs : X.stack = X.env :: X.outer) (hf : X.env.frame = some X.env.locals) (hN : X.N.Nodup) (hi : X.N[i]? = some n) (hln : X.env.kindOf n = some .local) (tk : Takes X W)
    (hb : ∀ (W : WX) (pn : List (Addr × Obj)) (xe : Value → Shared → Prop), Takes (X.tr pn xe) W → PassesOwn (model X.prog X.w) X.A X.env xe → PSs (X.tr pn xe) body (tb W))
    (ks : Klauses X n (h₀ :: hds) l) : PS X (.Try body (h₀ :: hds) [] [] pos) (fun D σ H => tb (picks X.K i W D l) D σ H) := by
  constructor
  intro pins s σ H D I h
  refine wpAny_Try_except (wpAny_mono ((hb (picks X.K i W D l) (X.pn ++ pins) _ ?_ PassesOwn.looking).run [] s σ H D (I.toTry _) h) ?_ (fun _ _ e => e))
  · rintro u s1 ⟨a, B, s0, pins1, σ1, H1, cls, d, rfl, J, old, up, sky, na, os, ag, w⟩
    have frames : X.A.frames = some (X.env :: X.outer) := I.ok.frames.trans (congrArg some hs)
    have sky1 : Sky B (X.env :: X.outer) a (Zc cls d) X.env.locals s1.heap := hs ▸ sky
    exact Sky.land Zc.steady frames hf sky1 fun h' fl up' => klauses_go hs hf hN hi hln tk (J.ofTry I.ok) old na ks (s := { s1 with heap := h' }) fl (up.trans up') os ag w
  · intro f s1 h1
    cases f with
    | ret u => exact let ⟨v, σ1, H1, I1, r, po⟩ := h1; ⟨v, σ1, H1, I1.ofTry I.ok, r, po⟩
    | next => exact let ⟨σ1, H1, I1, po⟩ := h1; wpAny_execs_nil ⟨σ1, H1, I1.ofTry I.ok, po⟩
    | brk => exact let ⟨σ1, H1, I1, po⟩ := h1; ⟨σ1, H1, I1.ofTry I.ok, po⟩
    | cont => exact let ⟨σ1, H1, I1, po⟩ := h1; ⟨σ1, H1, I1.ofTry I.ok, po⟩
end
/-! ### the mirror -/
/-- behind a suite: the name is gone -/
def endN (i : Nat) : Option (Fl × Hd) → Option (Fl × Hd)
  | some (.nx r, M) => some (.nx (clr i r), M)
  | some (.bk r, M) => some (.bk (clr i r), M)
  | some (.ct r, M) => some (.ct (clr i r), M)
  | some (.rt d, M) => some (.rt d, M)
  | _ => none
def sHand (i : Nat) : List ((Str → Option Bool) × (Str → SF)) → Str → SF
  | [], c => fun r M => some (.xx c r, M)
  | (sub, su) :: l, c => fun r M => match sub c with
    | some true => endN i (su c (clr i r) M)
    | some false => sHand i l c r M
    | none => none
/-- try: body; except C1 as x: ..; except C2 as x: .. (slot i) -/
def sTryN (i : Nat) (l : List ((Str → Option Bool) × (Str → SF))) (body : SF) : SF := fun r M => match body r M with
  | some (.xx c r1, M1) => sHand i l c r1 M1
  | o => o
inductive HdN (X : Cx) (n : Str) (i : Nat) : List ExceptHandler → List ((Str → Option Bool) × (Str → SF)) → Prop
  | nil : HdN X n i [] []
  | cons {x : Str} {sub : Str → Option Bool} {gs : Str → SF} {b : Stmt} {bs : List Stmt} {p q : Pos} {hds : List ExceptHandler} {l : List ((Str → Option Bool) × (Str → SF))} (F : Hnd X.K X.mg x sub)
      (su : ∀ (a : Addr) (oe : Obj) (dn : Str) (D : Addr) (pn : List (Addr × Obj)), X.mg dn = some (.ref D) → Zc (.ref D) none oe → (∃ vs, oe.data = .fields vs) → DSs (X.suite a ((a, oe) :: pn)) (some (a, i)) W0 (b :: bs) (gs dn))
      (more : HdN X n i hds l) (hg : Gl X x := by rfl) (hdb : (x == ("__debug__" : Str)) = false := by decide) : HdN X n i (.ExceptHandler (some (.Name x p)) (some n) (b :: bs) q :: hds) ((sub, gs) :: l)
section
variable {X : Cx} {n : Str} {i : Nat} {W : WX}
theorem HdN.klauses {hds : List ExceptHandler} {l : List ((Str → Option Bool) × (Str → SF))} (h : HdN X n i hds l) : ∃ kl, Klauses X n hds kl ∧ ∀ {W : WX} {p : List Addr} {H : Hp} {σ : L2.St} {Dn : Ends} {c : Str} {r : Ev} {M : Hd} {o : Fl × Hd} {C : Addr},
    Rl X.K X.mg p M H → Sl X.K none p H r σ → sHand i l c r M = some o → PoS ⟨X.K, X.mg, none⟩ W p H o Dn → X.mg c = some (.ref C) → picks X.K i W Dn kl (.ref C) none σ H := by
  induction h with
  | nil => exact ⟨[], .nil, fun R L e po hC => by cases e; exact po _ _ _ _ (List.prefix_refl _) (Le.refl _) R L hC⟩
  | @cons x sub gs b bs p q hds l F su more hg hdb ih =>
    obtain ⟨v, h1, h2⟩ := F.ok hg hdb
    obtain ⟨kl, ks, hk⟩ := ih
    refine ⟨⟨v, fun a cls d Dn σ H => ∃ dn D, cls = .ref D ∧ d = none ∧ X.mg dn = some (.ref D) ∧ gS ⟨X.K, X.mg, some (a, i)⟩ W0 (gs dn) Dn σ H⟩ :: kl, .cons h1 (fun a oe cls d pn hz hv => ⟨fun pins s σ H Dn I h => ?_⟩) ks, ?_⟩
    · obtain ⟨dn, D, rfl, rfl, hm, h⟩ := h
      exact (su a oe dn D pn hm hz hv).run pins s σ H Dn I h
    · intro W p H σ Dn c r M o C R L e po hC
      unfold sHand at e
      cases hsb : sub c with
      | none => rw [hsb] at e; cases e
      | some b =>
        rw [hsb] at e
        cases b with
        | false => exact .inr ⟨h2 c false C hsb hC, hk R L e po hC⟩
        | true =>
          refine .inl ⟨h2 c true C hsb hC, fun a na => ⟨c, C, rfl, rfl, hC, ?_⟩⟩
          dsimp only at e
          cases es : gs c (clr i r) M with
          | none => rw [es] at e; cases e
          | some w =>
            obtain ⟨fl, M2⟩ := w
            refine ⟨p, M, clr i r, (fl, M2), R, L.hold i a, es, ?_⟩
            rw [es] at e
            cases fl with
            | rt d => cases e; exact fun p2 H2 v hp hl R2 q => po p2 H2 v hp hl R2 q
            | nx r2 => cases e; exact fun p2 H2 σ2 hp hl R2 L2 => po p2 H2 _ hp hl R2 (L2.free i)
            | bk r2 => cases e; exact fun p2 H2 σ2 hp hl R2 L2 => po p2 H2 _ hp hl R2 (L2.free i)
            | ct r2 => cases e; exact fun p2 H2 σ2 hp hl R2 L2 => po p2 H2 _ hp hl R2 (L2.free i)
            | xx c2 r2 => cases e
theorem ds_tryN (i : Nat) {body : List Stmt} {h₀ : ExceptHandler} {hds : List ExceptHandler} {l : List ((Str → Option Bool) × (Str → SF))} {pos : Pos} {g : SF} (hN : X.N.Nodup) (tk : Takes X W)
    (hb : ∀ (W : WX) (pn : List (Addr × Obj)) (xe : Value → Shared → Prop), Takes (X.tr pn xe) W → PassesOwn (model X.prog X.w) X.A X.env xe → DSs (X.tr pn xe) none W body g)
    (hh : HdN X n i (h₀ :: hds) l) (hs : X.stack = X.env :: X.outer := by rfl) (hf : X.env.frame = some X.env.locals := by rfl) (hi : X.N[i]? = some n := by rfl) (hln : X.env.kindOf n = some .local := by rfl) :
    DS X none W (.Try body (h₀ :: hds) [] [] pos) (sTryN i l g) := by
  obtain ⟨kl, ks, hk⟩ := hh.klauses
  refine (ps_tryN (tb := fun W => gS (Cx.k X none) W g) hs hf hN hi hln tk hb ks).imp ?_
  rintro Dn σ H ⟨p, M, r, o, R, L, e, po⟩
  unfold sTryN at e
  cases eb : g r M with
  | none => rw [eb] at e; cases e
  | some w =>
    obtain ⟨fl, M1⟩ := w
    refine ⟨p, M, r, (fl, M1), R, L, eb, ?_⟩
    rw [eb] at e
    cases fl with
    | nx r1 => cases e; exact po
    | bk r1 => cases e; exact po
    | ct r1 => cases e; exact po
    | rt d => cases e; exact po
    | xx c1 r1 => exact fun p' H' σ' C hp hl R' L' hC => hk R' L' e (po.up hp hl) hC
end
end DI

end

section
set_option Elab.async false
set_option linter.all false
set_option maxRecDepth 100000
set_option maxHeartbeats 4000000
/-! DI16: own classes: fields read and stored, methods called, instances made. -/
namespace DI
open PySem PySem.Spec PyProof.Rows L2

/-- a class of the module without slots, properties or hooks; fl: names that no class of it has -/
structure ClsK (K : PySem.W.Frag) (mg : Str → Option Value) (c : Str) (fl : List Str) : Prop where
  ex : ∃ C, mg c = some (.ref C) ∧ Cls K C ∧ ∀ f ∈ fl, NoAttr K C f
theorem fld_get {K : PySem.W.Frag} {p : List Addr} {H : Hp} {f : Str} {d : D} : ∀ {fs : List (Str × D)} {ws : List (Str × V)}, Paired (fun (x : Str × D) (y : Str × V) => y.1 = x.1 ∧ Rep K p H x.2 y.2) fs ws → fs.lookup f = some d → ∃ v, ws.lookup f = some v ∧ Rep K p H d v
  | _, _, .nil, h => nomatch h
  | (x, e) :: fs, (y, v) :: ws, .cons h t, q => by
    obtain ⟨h1, h2⟩ := h
    have h1 : y = x := h1
    subst h1
    rw [List.lookup_cons] at q ⊢
    by_cases hf : f == y
    · rw [hf] at q ⊢
      cases q
      exact ⟨v, rfl, h2⟩
    · rw [Bool.not_eq_true] at hf
      rw [hf] at q ⊢
      exact fld_get t q
theorem fld_none {K : PySem.W.Frag} {p : List Addr} {H : Hp} {f : Str} : ∀ {fs : List (Str × D)} {ws : List (Str × V)}, Paired (fun (x : Str × D) (y : Str × V) => y.1 = x.1 ∧ Rep K p H x.2 y.2) fs ws → fs.lookup f = none → ws.lookup f = none
  | _, _, .nil, h => rfl
  | (x, e) :: fs, (y, v) :: ws, .cons h t, q => by
    obtain ⟨h1, h2⟩ := h
    have h1 : y = x := h1
    subst h1
    rw [List.lookup_cons] at q ⊢
    by_cases hf : f == y
    · rw [hf] at q
      cases q
    · rw [Bool.not_eq_true] at hf
      rw [hf] at q ⊢
      exact fld_none t q
/-- a field set -/
def putFD (f : Str) (d : D) : List (Str × D) → List (Str × D)
  | [] => [(f, d)]
  | (g, x) :: r => if g = f then (g, d) :: r else (g, x) :: putFD f d r
theorem fld_put {K : PySem.W.Frag} {p : List Addr} {H : Hp} {f : Str} {d : D} {v : V} (hd : Rep K p H d v) : ∀ {fs : List (Str × D)} {ws : List (Str × V)}, Paired (fun (x : Str × D) (y : Str × V) => y.1 = x.1 ∧ Rep K p H x.2 y.2) fs ws →
    Paired (fun (x : Str × D) (y : Str × V) => y.1 = x.1 ∧ Rep K p H x.2 y.2) (putFD f d fs) (putF f v ws)
  | _, _, .nil => .cons ⟨rfl, hd⟩ .nil
  | (x, e) :: fs, (y, u) :: ws, .cons h t => by
    obtain ⟨h1, h2⟩ := h
    have h1 : y = x := h1
    subst h1
    unfold putFD putF
    by_cases hf : y = f
    · rw [if_pos hf, if_pos hf]
      exact .cons ⟨rfl, hd⟩ t
    · rw [if_neg hf, if_neg hf]
      exact .cons ⟨rfl, h2⟩ (fld_put hd t)
theorem paired_len {α β : Type} {F : α → β → Prop} : ∀ {l : List α} {m : List β}, Paired F l m → l.length = m.length
  | _, _, .nil => rfl
  | _, _, .cons _ t => congrArg (· + 1) (paired_len t)
/-- what stands behind an instance -/
theorem rep_ins {K : PySem.W.Frag} {mg : Str → Option Value} {p : List Addr} {M : Hd} {H : Hp} {i : Nat} {v : V} {c : Str} {fs : List (Str × D)} {C : Addr} (R : Rl K mg p M H) (h : Rep K p H (.ref i) v) (e : M[i]? = some (.ins c fs)) (hc : mg c = some (.ref C)) :
    ∃ a dx ws, v = .ref a ∧ p[i]? = some a ∧ H a = some (.ins C dx ws) ∧ Paired (fun (x : Str × D) (y : Str × V) => y.1 = x.1 ∧ Rep K p H x.2 y.2) fs ws := by
  unfold Rep at h
  obtain ⟨a, ha, rfl⟩ := h
  obtain ⟨b, hb, C', dx, ws, m, e1, e2⟩ := R.ob i _ e
  rw [ha] at hb
  cases hb
  rw [hc] at m
  cases m
  exact ⟨a, dx, ws, rfl, ha, e1, e2⟩
/-- o.f -/
def fldG (c f : Str) : D → Hd → Option (Rs D) := fun x M => match x with
  | .ref i => (match M[i]? with
    | some (.ins c' fs) => if c' = c then pr M (fs.lookup f) else none
    | _ => none)
  | _ => none
/-- o.f = e -/
def sFld (c f : Str) (fo fe : EF) : SF := fun r M => exB (fe r M) r fun d M1 => exB (fo r M1) r fun x M2 => match x with
  | .ref i => (match M2[i]? with
    | some (.ins c' fs) => if c' = c ∧ fs.length < 1000 then some (.nx r, M2.set i (.ins c (putFD f d fs))) else none
    | _ => none)
  | _ => none
section
variable {X : Cx} {z : Zx} {W : WX} {a o e : Expr} {fa fo fe : EF} {c f : Str} {fl : List Str} {pos pos' : Pos}
theorem de_fld (F : ClsK X.K X.mg c fl) (hf : f ∈ fl) (ha : DE X z W a fa) (hb : attributeBase a f X.env (eval a X.env) = eval a X.env := by rfl) : DE X z W (.Attribute a f pos) (eUn (fldG c f) fa) := by
  obtain ⟨C, h1, h2, h3⟩ := F.ex
  refine (pe_fld ha hb).imp ?_
  rintro σ H Q ⟨p, M, ρ, o, R, L, e, po⟩
  refine gE_bnd R L e po fun d M1 p1 H1 v R1 L1 hl1 hp1 q1 e1 po1 => ?_
  unfold fldG at e1
  cases d with
  | ref i =>
    dsimp only at e1
    split at e1
    · rename_i c' fs hi
      split at e1
      · rename_i hcc
        subst hcc
        obtain ⟨a, dx, ws, rfl, _, g2, g3⟩ := rep_ins R1 q1 hi h1
        cases hl : fs.lookup f with
        | none => rw [hl] at e1; cases e1
        | some y =>
          rw [hl] at e1
          cases e1
          obtain ⟨w, w1, w2⟩ := fld_get g3 hl
          exact ⟨a, C, dx, ws, w, rfl, g2, h2, h3 f hf, w1, po1.ok R1 w2⟩
      · cases e1
    · cases e1
  | _ => cases e1
theorem ds_fld (F : ClsK X.K X.mg c fl) (hf : f ∈ fl) (ho : DE X z W o fo) (he : DE X z W e fe) (hs : swapsWith e (some (.Attribute o f pos')) pos.line X.env = pure false := by rfl) : DS X z W (.Assign [.Attribute o f pos'] e pos) (sFld c f fo fe) := by
  obtain ⟨C, h1, h2, h3⟩ := F.ex
  refine (ps_fld ho he hs).imp ?_
  rintro Dn σ H ⟨p, M, ρ, oo, R, L, e, po⟩
  unfold sFld at e
  refine gE_exB R L e po fun d M1 p1 H1 v R1 L1 hl1 hp1 q1 e1 po1 => ?_
  refine gE_exB R1 L1 e1 po1 fun d2 M2 p2 H2 v2 R2 L2 hl2 hp2 q2 e2 po2 => ?_
  cases d2 with
  | ref i =>
    dsimp only at e2
    split at e2
    · rename_i c' fs hi
      split at e2
      · rename_i hcc
        obtain ⟨rfl, hlen⟩ := hcc
        obtain ⟨a, dx, ws, rfl, g1, g2, g3⟩ := rep_ins R2 q2 hi h1
        cases e2
        have q1' := Rep.up hp2 hl2 _ q1
        obtain ⟨R3, hl3⟩ := R2.put (u := .ins C dx (putF f v ws)) (o := .ins c' (putFD f d fs)) g1 fun hl => ⟨C, dx, _, h1, upd_same, paired_mono (fun x y q => ⟨q.1, Rep.up (List.prefix_refl _) hl _ q.2⟩) (fld_put q1' g3)⟩
        exact ⟨a, C, dx, ws, rfl, g2, h2, h3 f hf, by rw [← paired_len g3]; exact hlen, po2 p2 _ σ (List.prefix_refl p2) hl3 R3 (L2.up (List.prefix_refl p2) hl3)⟩
      · cases e2
    · cases e2
  | _ => cases e2
end
/-! ### methods, new instances -/
section
variable {X : Cx} {k : Nat} {C f : Addr} {fd : FuncData} {ps : List Str} {sp : Sp} {E : L2.St → XK} {x m : Str} {p pos apos : Pos} {e o : Expr} {es : List Expr} {ta : TE} {t : TA}
/-- o.m(e, ..), what is raised is wished for at the caller's slots -/
theorem pe_methAt {pl : Sem Bool} (he : PE X o ta) (cl : Cls X.K C) (hm : Meth X.K C m f) (F : FnOk X.prog X.w X.K X.mg X.base (L2.CX X.prog X.w) k f fd ps sp) (hr : Room k X.A) (hb : Binds X.K fd ps []) (hx : ∀ σ, PassesAt (L2.CX X.prog X.w) X σ (E σ)) (ha : PA X (e :: es) t)
    (hst : starEach (e :: es) X.env = (false, eval e X.env) :: starEach es X.env) (hpl : (backTo pos (starEach es X.env)).any (·.1) = false)
    (ht : eval (.Call (.Attribute o m apos) (e :: es) [] pos) X.env = (do
      let ov ← eval o X.env
      standAt apos.atName
      let (f, first) ← holding [ov] (getMethod ov m pl)
      callWith pos f first (backTo pos (starEach (e :: es) X.env)) (backToKw pos (keywordEach [] X.env)))) :
    PE X (.Call (.Attribute o m apos) (e :: es) [] pos) (fun σ H Q => tMeth C m sp [] (E σ) ta t σ H Q) := by
  constructor
  intro pins s σ H Q I h
  refine PySem.W.methodCall_KW (pl := pl) (thn (he.run pins s σ H _ I h) ?_) ht
  rintro u s1 ⟨_, H1, I1, ru, a, dx, fs, rfl, there, free, q⟩
  cases ru
  refine getmeth_ok I1 there cl hm free (PySem.W.callWith_K (first := [.ref a]) (h₀ := X.base) I.ok.mod.kin hm.kp (thn (ha.run pos pins s1 σ H1 _ I1 q) ?_) hst hpl)
  rintro us s2 ⟨vs, H2, I2, r, q2⟩
  exact ⟨I2.kIn, run_fnSD (us := .ref a :: us) (vs := .ref a :: vs) F hr hb .nil (hx σ) I2 (.cons rfl r) q2⟩
theorem pe_methAt0 {pl : Sem Bool} (he : PE X o ta) (cl : Cls X.K C) (hm : Meth X.K C m f) (F : FnOk X.prog X.w X.K X.mg X.base (L2.CX X.prog X.w) k f fd ps sp) (hr : Room k X.A) (hb : Binds X.K fd ps []) (hx : ∀ σ, PassesAt (L2.CX X.prog X.w) X σ (E σ))
    (ht : eval (.Call (.Attribute o m apos) [] [] pos) X.env = (do
      let ov ← eval o X.env
      standAt apos.atName
      let (f, first) ← holding [ov] (getMethod ov m pl)
      callWith pos f first (backTo pos (starEach [] X.env)) (backToKw pos (keywordEach [] X.env)))) :
    PE X (.Call (.Attribute o m apos) [] [] pos) (fun σ H Q => tMeth C m sp [] (E σ) ta tNil σ H Q) := by
  constructor
  intro pins s σ H Q I h
  refine PySem.W.methodCall_KW (pl := pl) (thn (he.run pins s σ H _ I h) ?_) ht
  rintro u s1 ⟨_, H1, I1, ru, a, dx, fs, rfl, there, free, q⟩
  cases ru
  refine getmeth_ok I1 there cl hm free (PySem.W.callWith_K0 (first := [.ref a]) I1.kIn hm.kp ?_)
  exact run_fnSD (us := [.ref a]) (vs := [.ref a]) F hr hb .nil (hx σ) I1 (.cons rfl .nil) q
/-- C(..): the instance and its dict are laid, __init__ runs -/
theorem makeAt {pins : List (Addr × Obj)} {σ : L2.St} {H : Hp} {s : Shared} {Q : VK} {us : List Value} {vs : List V} (M : Mk X.K C f) (F : FnOk X.prog X.w X.K X.mg X.base (L2.CX X.prog X.w) k f fd ps sp) (hr : Room (k + 1) X.A) (hb : Binds X.K fd ps []) (hx : PassesAt (L2.CX X.prog X.w) X σ (E σ))
    (I : Inv X pins σ H s) (r : Vals vs us) (h : ∀ x dx, H x = none → H dx = none → dx ≠ x → sp (.ref x :: (vs ++ [])) (upd (upd H dx (.own x)) x (.ins C dx [])) (fun v H2 => v = .non ∧ Q (.ref x) H2) (E σ)) :
    wpAny (model X.prog X.w) X.A (call (.ref C) us) (EP X pins σ Q) X.xe s := by
  have new := Inv.made (C := C) I
  generalize hn : s.heap.objs.size = d at new
  have wish := h (d + 1) d (I.hok.fresh (by rw [hn]; exact Nat.le_succ d)) (I.hok.fresh (by rw [hn]; exact Nat.le_refl d)) (Nat.ne_of_lt (Nat.lt_succ_self d))
  rw [List.append_nil] at wish
  have args : Vals (V.ref (d + 1) :: vs) (Value.ref (d + 1) :: us) := .cons rfl r
  have few : (Value.ref (d + 1) :: us).length = ps.length := by rw [← args.length]; exact F.len _ _ _ _ wish
  have inner := F.run (X.A.under (.builtin "type.__call__" ⟨.ref C :: us, []⟩)) X.stack _ _ ⟨Value.ref (d + 1) :: us, []⟩ (Value.ref (d + 1) :: us) _ _ (E σ) (hr.make C us []) (new.env0.make C us []) (by
    have := hb _ (Value.ref (d + 1) :: us) new.kIn (by rw [List.append_nil]; exact few)
    rw [List.append_nil] at this
    exact this) args wish
  refine wpAny_call (make_map (f := f) I.kIn M.makes M.init (beq_iff_eq.mp M.fn) ?_)
  rw [hn]
  refine codeAny_mono inner ?_
  intro res s' back
  cases res with
  | error ex => exact hx pins _ _ ex s' new back
  | ok fl =>
    cases fl with
    | ret u =>
      obtain ⟨v, H3, I3, rv, hv, done⟩ := new.after back
      subst hv
      exact ⟨rv, .ref (d + 1), H3, I3, rfl, done⟩
    | next => exact back.elim
    | brk => exact back.elim
    | cont => exact back.elim
theorem pe_makeAt (M : Mk X.K C f) (F : FnOk X.prog X.w X.K X.mg X.base (L2.CX X.prog X.w) k f fd ps sp) (hr : Room (k + 1) X.A) (hg : Gl X x) (hm : X.mg x = some (.ref C)) (hb : Binds X.K fd ps []) (hx : ∀ σ, PassesAt (L2.CX X.prog X.w) X σ (E σ))
    (ha : PA X (e :: es) t) (hdb : (x == ("__debug__" : Str)) = false) (he : starEach (e :: es) X.env = (false, eval e X.env) :: starEach es X.env) (hpl : (backTo pos (starEach es X.env)).any (·.1) = false) :
    PE X (.Call (.Name x p) (e :: es) [] pos) (fun σ H Q => tMake C sp [] (E σ) t σ H Q) := by
  constructor
  intro pins s σ H Q I h
  refine wpAny_Call_Name_kw (ld_glob I hg hm (PySem.W.callWith_K (h₀ := X.base) I.ok.mod.kin M.kp (thn (ha.run pos pins s σ H _ I h) ?_) he hpl) hdb)
  rintro us s1 ⟨vs, H1, I1, r, q⟩
  exact ⟨I1.kIn, makeAt M F hr hb (hx σ) I1 r q⟩
end
/-! ### their mirrors -/
/-- a method of a class of the module, by its mirror -/
structure Mth (P : Program) (w : World) (K : PySem.W.Frag) (mg : Str → Option Value) (base : Heap) (k : Nat) (c m : Str) (n : Nat) (mm : List D → Hd → Option (Rs D)) : Prop where
  ln : ∀ ds M o, mm ds M = some o → ds.length = n
  ex : ∃ C f fd ps, mg c = some (.ref C) ∧ Cls K C ∧ Meth K C m f ∧ Binds K fd ps [] ∧ FnOk P w K mg base (L2.CX P w) k f fd ps (spD K mg n mm)
theorem Mth.mono {P : Program} {w : World} {K : PySem.W.Frag} {mg : Str → Option Value} {base : Heap} {j k n : Nat} {c m : Str} {mm : List D → Hd → Option (Rs D)} (h : Mth P w K mg base j c m n mm) (hk : j ≤ k) : Mth P w K mg base k c m n mm := by
  obtain ⟨C, f, fd, ps, h1, h2, h3, h4, h5⟩ := h.ex
  exact ⟨h.ln, C, f, fd, ps, h1, h2, h3, h4, h5.mono hk⟩
/-- a class of the module that is made with __init__, by __init__'s mirror -/
structure MkI (P : Program) (w : World) (K : PySem.W.Frag) (mg : Str → Option Value) (base : Heap) (k : Nat) (c : Str) (n : Nat) (mm : List D → Hd → Option (Rs D)) : Prop where
  ln : ∀ ds M o, mm ds M = some o → ds.length = n
  ex : ∃ C f fd ps, mg c = some (.ref C) ∧ Mk K C f ∧ Binds K fd ps [] ∧ FnOk P w K mg base (L2.CX P w) k f fd ps (spD K mg n mm)
theorem MkI.mono {P : Program} {w : World} {K : PySem.W.Frag} {mg : Str → Option Value} {base : Heap} {j k n : Nat} {c : Str} {mm : List D → Hd → Option (Rs D)} (h : MkI P w K mg base j c n mm) (hk : j ≤ k) : MkI P w K mg base k c n mm := by
  obtain ⟨C, f, fd, ps, h1, h2, h3, h4⟩ := h.ex
  exact ⟨h.ln, C, f, fd, ps, h1, h2, h3, h4.mono hk⟩
def eMeth (c m : Str) (mm : List D → Hd → Option (Rs D)) (fa : EF) (g : AF) : EF := fun r M => bnd (fa r M) fun x M1 => match x with
  | .ref i => (match M1[i]? with
    | some (.ins c' fs) => if c' = c ∧ fs.lookup m = none then bnd (g r M1) fun ds M2 => mm (.ref i :: ds) M2 else none
    | _ => none)
  | _ => none
def eMake (c : Str) (mm : List D → Hd → Option (Rs D)) (g : AF) : EF := fun r M => bnd (g r M) fun ds M1 => match mm (.ref M1.length :: ds) (M1 ++ [.ins c []]) with
  | some (.ok .non M2) => some (.ok (.ref M1.length) M2)
  | some (.er c2 M2) => some (.er c2 M2)
  | _ => none
section
variable {X : Cx} {z : Zx} {W : WX} {a e : Expr} {es : List Expr} {fa : EF} {g : AF} {c m : Str} {k n : Nat} {mm : List D → Hd → Option (Rs D)} {p' ap pos : Pos}
theorem de_meth {pl : Sem Bool} (F : Mth X.prog X.w X.K X.mg X.base k c m n mm) (tk : Takes X W) (hr : Room k X.A) (ha : DE X z W a fa) (hg : DA X z W (e :: es) g)
    (hst : starEach (e :: es) X.env = (false, eval e X.env) :: starEach es X.env := by rfl) (hpl : (backTo pos (starEach es X.env)).any (·.1) = false := by rfl)
    (ht : eval (.Call (.Attribute a m ap) (e :: es) [] pos) X.env = (do
      let ov ← eval a X.env
      standAt ap.atName
      let (f, first) ← holding [ov] (getMethod ov m pl)
      callWith pos f first (backTo pos (starEach (e :: es) X.env)) (backToKw pos (keywordEach [] X.env))) := by rfl) : DE X z W (.Call (.Attribute a m ap) (e :: es) [] pos) (eMeth c m mm fa g) := by
  obtain ⟨C, f, fd, ps, h1, h2, h3, h4, h5⟩ := F.ex
  refine (pe_methAt ha h2 h3 h5 hr h4 (E := fun σ cls d H' => W cls d σ H') (fun σ => passAt tk σ) hg hst hpl ht).imp ?_
  rintro σ H Q ⟨p, M, ρ, o, R, L, e, po⟩
  refine gE_bnd R L e po fun d M1 p1 H1 v R1 L1 hl1 hp1 q1 e1 po1 => ?_
  cases d with
  | ref i =>
    dsimp only at e1
    split at e1
    · rename_i c' fs hi
      split at e1
      · rename_i hcc
        obtain ⟨rfl, hno⟩ := hcc
        obtain ⟨a, dx, ws, rfl, _, g2, g3⟩ := rep_ins R1 q1 hi h1
        refine ⟨a, dx, ws, rfl, g2, fld_none g3 hno, ?_⟩
        refine gE_bnd R1 L1 e1 po1 fun ds M2 p2 H2 vs R2 L2 hl2 hp2 q2 e2 po2 => ?_
        rw [List.append_nil]
        exact sp_of R2 (reps_cons (Rep.up hp2 hl2 _ q1) q2) (F.ln _ _ _ e2) e2 po2
      · cases e1
    · cases e1
  | _ => cases e1
theorem de_meth0 {pl : Sem Bool} (F : Mth X.prog X.w X.K X.mg X.base k c m n mm) (tk : Takes X W) (hr : Room k X.A) (ha : DE X z W a fa)
    (ht : eval (.Call (.Attribute a m ap) [] [] pos) X.env = (do
      let ov ← eval a X.env
      standAt ap.atName
      let (f, first) ← holding [ov] (getMethod ov m pl)
      callWith pos f first (backTo pos (starEach [] X.env)) (backToKw pos (keywordEach [] X.env))) := by rfl) : DE X z W (.Call (.Attribute a m ap) [] [] pos) (eMeth c m mm fa aNil) := by
  obtain ⟨C, f, fd, ps, h1, h2, h3, h4, h5⟩ := F.ex
  refine (pe_methAt0 ha h2 h3 h5 hr h4 (E := fun σ cls d H' => W cls d σ H') (fun σ => passAt tk σ) ht).imp ?_
  rintro σ H Q ⟨p, M, ρ, o, R, L, e, po⟩
  refine gE_bnd R L e po fun d M1 p1 H1 v R1 L1 hl1 hp1 q1 e1 po1 => ?_
  cases d with
  | ref i =>
    dsimp only at e1
    split at e1
    · rename_i c' fs hi
      split at e1
      · rename_i hcc
        obtain ⟨rfl, hno⟩ := hcc
        obtain ⟨a, dx, ws, rfl, _, g2, g3⟩ := rep_ins R1 q1 hi h1
        refine ⟨a, dx, ws, rfl, g2, fld_none g3 hno, ?_⟩
        unfold aNil at e1
        rw [bnd_ok] at e1
        exact sp_of R1 (reps_cons q1 reps_nil) (F.ln _ _ _ e1) e1 po1
      · cases e1
    · cases e1
  | _ => cases e1
theorem de_make (F : MkI X.prog X.w X.K X.mg X.base k c n mm) (tk : Takes X W) (hr : Room (k + 1) X.A) (hg : DA X z W (e :: es) g) (hgl : Gl X c := by rfl) (hdb : (c == ("__debug__" : Str)) = false := by decide)
    (he : starEach (e :: es) X.env = (false, eval e X.env) :: starEach es X.env := by rfl) (hpl : (backTo pos (starEach es X.env)).any (·.1) = false := by rfl) : DE X z W (.Call (.Name c p') (e :: es) [] pos) (eMake c mm g) := by
  obtain ⟨C, f, fd, ps, h1, h2, h3, h4⟩ := F.ex
  refine (pe_makeAt h2 h4 hr hgl h1 h3 (E := fun σ cls d H' => W cls d σ H') (fun σ => passAt tk σ) hg hdb he hpl).imp ?_
  rintro σ H Q ⟨p, M, ρ, o, R, L, e, po⟩
  refine gE_bnd R L e po fun ds M1 p1 H1 vs R1 L1 hl1 hp1 q1 e1 po1 => ?_
  intro x dx hx hdx ne
  have hx2 : upd H1 dx (.own x) x = none := by rw [upd_ne (Ne.symm ne)]; exact hx
  have le1 : Le H1 (upd H1 dx (.own x)) := Le.new hdx
  have le2 : Le (upd H1 dx (.own x)) (upd (upd H1 dx (.own x)) x (.ins C dx [])) := Le.new hx2
  have R2 : Rl X.K X.mg (p1 ++ [x]) (M1 ++ [.ins c []]) (upd (upd H1 dx (.own x)) x (.ins C dx [])) := (R1.other hdx).new hx2 ⟨C, dx, [], h1, upd_same, .nil⟩
  have at_ : ∀ {p2 : List Addr}, p1 ++ [x] <+: p2 → p2[M1.length]? = some x := fun {p2} h => by
    obtain ⟨t, rfl⟩ := h
    rw [← R1.len, List.append_assoc, List.getElem?_append_right (Nat.le_refl _), Nat.sub_self]
    rfl
  have q2 : Reps X.K (p1 ++ [x]) (upd (upd H1 dx (.own x)) x (.ins C dx [])) (.ref M1.length :: ds) (.ref x :: vs) := reps_cons (rep_ref (at_ (List.prefix_refl _))) (Reps.up (List.prefix_append p1 [x]) (le1.trans le2) _ q1)
  rw [List.append_nil]
  cases em : mm (.ref M1.length :: ds) (M1 ++ [.ins c []]) with
  | none => rw [em] at e1; cases e1
  | some o2 =>
    refine ⟨p1 ++ [x], _, _, o2, R2, q2, F.ln _ _ _ em, em, ?_⟩
    rw [em] at e1
    cases o2 with
    | er c2 M2 =>
      cases e1
      exact fun p2 H2 C2 hp hl R3 hC => po1 p2 H2 C2 ((List.prefix_append p1 [x]).trans hp) ((le1.trans le2).trans hl) R3 hC
    | ok d M2 =>
      cases d with
      | non =>
        cases e1
        intro p2 H2 v hp hl R3 hv
        unfold Rep at hv
        exact ⟨hv, po1 p2 H2 (.ref x) ((List.prefix_append p1 [x]).trans hp) ((le1.trans le2).trans hl) R3 (rep_ref (at_ hp))⟩
      | _ => cases e1
end
end DI

end

section
set_option Elab.async false
set_option linter.all false
set_option maxRecDepth 100000
set_option maxHeartbeats 4000000
/-! DI17: {"a": x, ..} and d["a"]. -/
namespace DI
open PySem PySem.Spec PyProof.Rows L2

/-- d[k], d of text keys -/
def dgetG : G2 := fun x y M => match x, y with
  | .ref i, .str s => (match M[i]? with
    | some (.dic kvs) => pr M (kvs.lookup s)
    | _ => none)
  | _, _ => none
theorem dic_get {K : PySem.W.Frag} {p : List Addr} {H : Hp} {s : Str} {d : D} : ∀ {kvs : List (Str × D)} {ws : List (Key × V)}, Paired (fun (x : Str × D) (y : Key × V) => y.1 = Sum.inr x.1 ∧ Rep K p H x.2 y.2) kvs ws → kvs.lookup s = some d → ∃ v, valV ws (Sum.inr s) = some v ∧ Rep K p H d v
  | _, _, .nil, h => nomatch h
  | (x, e) :: kvs, (y, v) :: ws, .cons h t, q => by
    obtain ⟨h1, h2⟩ := h
    have h1 : y = Sum.inr x := h1
    subst h1
    rw [List.lookup_cons] at q
    by_cases hf : s == x
    · rw [hf] at q
      cases q
      exact ⟨v, valV_pos (p := (Sum.inr x, v)) (by rw [eq_of_beq hf]), h2⟩
    · rw [Bool.not_eq_true] at hf
      rw [hf] at q
      obtain ⟨u, u1, u2⟩ := dic_get t q
      refine ⟨u, ?_, u2⟩
      rw [valV_neg (p := (Sum.inr x, v)) (fun e => by
        have : x = s := Sum.inr.inj e
        rw [this, beq_self_eq_true] at hf
        cases hf)]
      exact u1
section
variable {X : Cx} {z : Zx} {W : WX} {a b : Expr} {fa fb : EF} {pos : Pos}
theorem de_dget (hu : X.A.units + 1 < cLine) (ha : DE X z W a fa) (hb : DE X z W b fb) (hs : NoSl b := by exact fun _ _ => rfl) : DE X z W (.Subscript a b pos) (eOp dgetG fa fb) := by
  refine (pe_dget hu ha hb hs).imp ?_
  rintro σ H Q ⟨p, M, ρ, o, R, L, e, po⟩
  refine gE_bnd R L e po fun d M1 p1 H1 v R1 L1 hl1 hp1 q1 e1 po1 => ?_
  refine gE_bnd R1 L1 e1 po1 fun d2 M2 p2 H2 u R2 L2 hl2 hp2 q2 e2 po2 => ?_
  unfold dgetG at e2
  split at e2
  · rename_i i s
    split at e2
    · rename_i kvs hi
      have q1 := Rep.up hp2 hl2 _ q1
      unfold Rep at q1 q2
      obtain ⟨x, hx, rfl⟩ := q1
      obtain ⟨y, hy, ws, w1, w2⟩ := R2.ob i _ hi
      rw [hx] at hy
      cases hy
      subst q2
      cases hl : kvs.lookup s with
      | none => rw [hl] at e2; cases e2
      | some dv =>
        rw [hl] at e2
        cases e2
        obtain ⟨t, t1, t2⟩ := dic_get w2 hl
        have g := DGet.k (k := Sum.inr s) w1
        rw [t1] at g
        exact ⟨x, t, rfl, g, po2.ok R2 t2⟩
    · cases e2
  · cases e2
end
/-- pairs of a display -/
def DP (X : Cx) (z : Zx) (W : WX) (pos : Pos) (keys : List (Option Expr)) (values : List Expr) (ks : List Str) (g : AF) : Prop :=
  ∃ trs, PPs X pos keys values trs ∧ ∀ σ H (Q : List (V × V) → Hp → Prop), gE (Cx.k X z) W (rA (Cx.k X z)) g σ H (fun vs H' => Q ((ks.zip vs).map fun kv => (V.str kv.1, kv.2)) H') → tPairs trs σ H Q
section
variable {X : Cx} {z : Zx} {W : WX} {pos p : Pos} {keys : List (Option Expr)} {values : List Expr} {ks : List Str} {g : AF} {fa : EF} {v : Expr} {x : Str} {j : Nat}
theorem dp_nil : DP X z W pos [] [] [] aNil := by
  refine ⟨[], pps_nil, ?_⟩
  rintro σ H Q ⟨p, M, ρ, o, R, L, e, po⟩
  cases e
  exact po p H [] (List.prefix_refl _) (Le.refl _) R reps_nil
theorem dp_cons (hv : DE X z W v fa) (hr : DP X z W pos keys values ks g) : DP X z W pos (some (.Constant (.str x) j p) :: keys) (v :: values) (x :: ks) (aCons fa g) := by
  obtain ⟨trs, h1, h2⟩ := hr
  refine ⟨_, pps_cons pe_str hv h1, ?_⟩
  rintro σ H Q ⟨p, M, ρ, o, R, L, e, po⟩
  show gE (Cx.k X z) W (rD (Cx.k X z)) fa σ H _
  unfold aCons at e
  refine gE_bnd R L e po fun d M1 p1 H1 v R1 L1 hl1 hp1 q1 e1 po1 => ?_
  refine h2 σ H1 _ (gE_bnd R1 L1 e1 po1 fun ds M2 p2 H2 vs R2 L2 hl2 hp2 q2 e2 po2 => ?_)
  cases e2
  exact po2 p2 H2 (v :: vs) (List.prefix_refl _) (Le.refl _) R2 (reps_cons (Rep.up hp2 hl2 _ q1) q2)
end
def eDic (ks : List Str) (g : AF) : EF := fun r M => bnd (g r (M ++ [.dic []])) fun ds M1 =>
  match M1[M.length]? with
  | some (.dic []) => if ds.length = ks.length ∧ ks.Nodup ∧ ks.length ≤ 15 then some (.ok (.ref M.length) (M1.set M.length (.dic (ks.zip ds)))) else none
  | _ => none
theorem merge_new : ∀ (l acc : List (Key × V)), (l.map (·.1)).Nodup → (∀ x ∈ l, ∀ y ∈ acc, y.1 ≠ x.1) → mergeK acc l = acc ++ l
  | [], acc, _, _ => by rw [List.append_nil]; rfl
  | x :: l, acc, hn, hd => by
    have e : putK acc x.1 x.2 = acc ++ [x] := by
      unfold putK
      rw [if_neg]
      intro h
      obtain ⟨y, hy, e⟩ := List.any_eq_true.mp h
      exact hd x List.mem_cons_self y hy (of_decide_eq_true e)
    have hn' : x.1 ∉ l.map (·.1) ∧ (l.map (·.1)).Nodup := List.nodup_cons.mp hn
    show mergeK (putK acc x.1 x.2) l = _
    rw [e, merge_new l (acc ++ [x]) hn'.2 (fun u hu y hy => ?_), List.append_assoc]
    · rfl
    · rcases List.mem_append.mp hy with hy | hy
      · exact hd u (List.mem_cons_of_mem _ hu) y hy
      · rw [List.mem_singleton] at hy
        subst hy
        intro q
        exact hn'.1 (by rw [q]; exact List.mem_map_of_mem hu)
theorem PoE.up' {k : Kx} {W : WX} {p p1 : List Addr} {H H1 : Hp} {σ : L2.St} {o : Rs D} {Q : VK} (h : PoE k W (rD k) p H σ o Q) (hp : p <+: p1) (hl : Le H H1) : PoE k W (rD k) p1 H1 σ o Q := by
  cases o with
  | ok d M => exact fun p' H' v a b c e => h p' H' v (hp.trans a) (hl.trans b) c e
  | er c M => exact fun p' H' C a b e f => h p' H' C (hp.trans a) (hl.trans b) e f
theorem zip_pairs {K : PySem.W.Frag} {p : List Addr} {H : Hp} : ∀ {ks : List Str} {ds : List D} {vs : List V}, Reps K p H ds vs → Paired (fun (x : Str × D) (y : Key × V) => y.1 = Sum.inr x.1 ∧ Rep K p H x.2 y.2) (ks.zip ds) ((ks.zip vs).map fun kv => (Sum.inr kv.1, kv.2))
  | [], ds, vs, _ => .nil
  | k :: ks, [], vs, h => by
    unfold Reps at h
    subst h
    exact .nil
  | k :: ks, d :: ds, vs, h => by
    unfold Reps at h
    obtain ⟨v, ws, rfl, h1, h2⟩ := h
    exact .cons ⟨rfl, h1⟩ (zip_pairs h2)
section
variable {X : Cx} {z : Zx} {W : WX} {pos : Pos} {keys : List (Option Expr)} {values : List Expr} {ks : List Str} {g : AF}
theorem de_dic (h : DP X z W pos keys values ks g) (hall : keys.all (·.isSome) = true := by rfl) (hl : keys.length = values.length := by rfl) (h0 : keys ≠ [] := by exact fun h => nomatch h) (h15 : keys.length ≤ 15 := by decide) : DE X z W (.Dict keys values pos) (eDic ks g) := by
  obtain ⟨trs, h1, h2⟩ := h
  refine (pe_disp h1 hall hl h0 h15).imp ?_
  rintro σ H Q ⟨p, M, ρ, o, R, L, e, po⟩
  intro a ha
  have R1 : Rl X.K X.mg (p ++ [a]) (M ++ [.dic []]) (upd H a (.dK [])) := R.new ha ⟨[], upd_same, .nil⟩
  have hp : p <+: p ++ [a] := List.prefix_append p [a]
  have hl : Le H (upd H a (.dK [])) := Le.new ha
  unfold eDic at e
  refine h2 σ _ _ (gE_bnd R1 (L.up hp hl) e (po.up' hp hl) fun ds M2 p2 H2 vs R2 L2 hl2 hp2 q2 e2 po2 => ?_)
  split at e2
  · rename_i hM
    split at e2
    · rename_i hc
      obtain ⟨hlen, hnd, h16⟩ := hc
      have at_ : p2[M.length]? = some a := by
        obtain ⟨t, rfl⟩ := hp2
        rw [← R.len, List.append_assoc, List.getElem?_append_right (Nat.le_refl _), Nat.sub_self]
        rfl
      obtain ⟨b, hb, ws, w1, w2⟩ := R2.ob _ _ hM
      rw [at_] at hb
      cases hb
      cases w2
      cases e2
      have hvl : vs.length = ks.length := by rw [← hlen, reps_len q2]
      have hz : (ks.zip vs).length = ks.length := by rw [List.length_zip, hvl, Nat.min_self]
      refine ⟨w1, (ks.zip vs).map fun kv => (Sum.inr kv.1, kv.2), ?_, by rw [List.length_map, hz]; exact h16, ?_⟩
      · rw [List.map_map]
        rfl
      · rw [merge_new _ [] ?_ (fun x hx y hy => nomatch hy), List.nil_append]
        · obtain ⟨R3, hl3⟩ := R2.put (u := .dK ((ks.zip vs).map fun kv => (Sum.inr kv.1, kv.2))) (o := .dic (ks.zip ds)) at_ fun hl => ⟨_, upd_same, paired_mono (fun x y q => ⟨q.1, Rep.up (List.prefix_refl _) hl _ q.2⟩) (zip_pairs q2)⟩
          exact po2 p2 _ (.ref a) (List.prefix_refl _) hl3 R3 (rep_ref at_)
        · rw [List.map_map]
          have e3 : (ks.zip vs).map ((fun x : Key × V => x.1) ∘ fun kv : Str × V => ((Sum.inr kv.1 : Key), kv.2)) = ((ks.zip vs).map Prod.fst).map fun x => (Sum.inr x : Key) := by
            rw [List.map_map]
            rfl
          rw [e3, List.map_fst_zip (by omega)]
          exact List.Pairwise.map _ (fun x y h e => h (Sum.inr.inj e)) hnd
    · cases e2
  · cases e2
end
end DI

end

section
set_option Elab.async false
set_option linter.all false
set_option maxRecDepth 100000
set_option maxHeartbeats 4000000
/-! DI18: len(o), -o, o + p of own classes. -/
namespace DI
open PySem PySem.Spec PyProof.Rows L2

section
variable {X : Cx} {k : Nat} {C f a b dx dy : Addr} {fd : FuncData} {ps : List Str} {sp : Sp} {E : L2.St → XK} {pins : List (Addr × Obj)} {σ : L2.St} {H : Hp} {s : Shared} {fs gs : List (Str × V)} {m : Str} {A : Around}
theorem run_fnAt {Q : VK} {us : List Value} {vs : List V} (F : FnOk X.prog X.w X.K X.mg X.base (L2.CX X.prog X.w) k f fd ps sp) (hr : Room k A) (e0 : Env0 X.prog X.w X.K X.mg X.base A X.stack s H) (hb : Binds X.K fd ps []) (hx : PassesAt (L2.CX X.prog X.w) X σ (E σ)) (I : Inv X pins σ H s) (r : Vals vs us) (h : sp vs H Q (E σ)) :
    wpAny (model X.prog X.w) A (call (.ref f) us) (EP X pins σ Q) X.xe s := by
  have few : us.length = ps.length := by rw [← r.length]; exact F.len _ _ _ _ h
  have bd := hb s us I.kIn (by rw [List.append_nil]; exact few)
  rw [List.append_nil] at bd
  refine wpAny_call (codeAny_mono (F.run A X.stack s H ⟨us, []⟩ us vs Q (E σ) hr e0 bd r h) ?_)
  intro res s' back
  cases res with
  | error ex => exact hx pins H s ex s' I back
  | ok fl =>
    cases fl with
    | ret u => exact I.after back
    | next => exact back.elim
    | brk => exact back.elim
    | cont => exact back.elim
theorem inst_of (I : Inv X pins σ H s) (e : H a = some (.ins C dx fs)) : ∃ od, PySem.W.InstAt s.heap a (PySem.W.instObj C dx) C od := by
  obtain ⟨mA, O, _⟩ := ins_get I.hok e
  obtain ⟨od, J, _⟩ := O.look
  exact ⟨od, J⟩
theorem special_ok {Q : Option Value → Shared → Prop} {Ee : Value → Shared → Prop} {us : List Value} (I : Inv X pins σ H s) (e : H a = some (.ins C dx fs)) (hm : Meth X.K C m f)
    (h : wpAny (model X.prog X.w) A (call (.ref f) (.ref a :: us)) (fun v => Q (some v)) Ee s) : wpAny (model X.prog X.w) A (callSpecial? (.ref a) m us) Q Ee s := by
  obtain ⟨od, J⟩ := inst_of I e
  exact PySem.W.special_fn I.kIn J hm.at_ (beq_iff_eq.mp hm.fn) h
theorem neg_own {Q : Value → Shared → Prop} {Ee : Value → Shared → Prop} (I : Inv X pins σ H s) (e : H a = some (.ins C dx fs)) (hm : Meth X.K C "__neg__" f)
    (h : wpAny (model X.prog X.w) A (call (.ref f) [.ref a]) Q Ee s) : wpAny (model X.prog X.w) A (unaryOp .USub (.ref a)) Q Ee s := by
  have one : wpAny (model X.prog X.w) A (callSpecial? (.ref a) "__neg__") (fun r s' => ∃ v, r = some v ∧ Q v s') Ee s := special_ok I e hm (wpAny_mono h (fun v _ q => ⟨v, rfl, q⟩) fun _ _ q => q)
  unfold unaryOp
  refine wpAny_holding (wpAny_bind (wpAny_mono one (fun r s' q => ?_) fun _ _ q => q))
  obtain ⟨v, rfl, q⟩ := q
  exact wpAny_pure q
theorem len_own {Q : Value → Shared → Prop} {Ee : Value → Shared → Prop} (I : Inv X pins σ H s) (e : H a = some (.ins C dx fs)) (hm : Meth X.K C "__len__" f)
    (h : wpAny (model X.prog X.w) A.in1 (call (.ref f) [.ref a]) (fun v s' => ∃ (n : Int) (t : Tok), v = .int n t ∧ 0 ≤ n ∧ n < 2 ^ 63 ∧ Q (.int n s'.toks) { s' with toks := s'.toks + 1 }) Ee s) : wpAny (model X.prog X.w) A (call (.builtin "len") [.ref a]) Q Ee s := by
  have fit : wpAny (model X.prog X.w) A.in1 (callSpecial? (.ref a) (Str.ofString "__len__")) (fun r s' => ∃ (n : Int) (t : Tok), r = some (.int n t) ∧ 0 ≤ n ∧ n < 2 ^ 63 ∧ Q (.int n s'.toks) { s' with toks := s'.toks + 1 }) Ee s := by
    refine special_ok I e hm (wpAny_mono h (fun v _ q => ?_) fun _ _ q => q)
    obtain ⟨n, t, rfl, q⟩ := q
    exact ⟨n, t, rfl, q⟩
  refine Calls.call_function_entry (args := [.ref a]) kind_len plain_len entry_len (args_len1 _) ?_
  unfold Builtin.«len»
  refine wpAny_bind (m := oneArg "len" _) (wpAny_pure (wpAny_bind (wpAny_mono fit (fun r s' q => ?_) fun _ _ q => q)))
  obtain ⟨n, t, rfl, h0, h1, q⟩ := q
  refine wpAny_bind (wpAny_holding (wpAny_pure (wpAny_bind (wpAny_letGo ?_))))
  show wpAny _ _ (if n < 0 then _ else _) _ _ _
  rw [if_neg (by omega : ¬ n < 0)]
  show wpAny _ _ (if n ≥ 2 ^ 63 then _ else _) _ _ _
  rw [if_neg (by omega : ¬ n ≥ 2 ^ 63)]
  exact wpAny_bind (wpAny_mkInt (wpAny_pure ⟨_, rfl, q⟩))
theorem add_own {Q : Value → Shared → Prop} {Ee : Value → Shared → Prop} (I : Inv X pins σ H s) (ea : H a = some (.ins C dx fs)) (eb : H b = some (.ins C dy gs)) (hm : Meth X.K C "__add__" f) (hc : PySem.W.selfFirst X.K C = true)
    (h : wpAny (model X.prog X.w) A (call (.ref f) [.ref a, .ref b]) (PySem.W.CmpBack Q) Ee s) : wpAny (model X.prog X.w) A (binaryOp .Add (.ref a) (.ref b)) Q Ee s := by
  obtain ⟨od, J⟩ := inst_of I ea
  obtain ⟨oe, J2⟩ := inst_of I eb
  obtain ⟨cd, rest, hcd, hmro⟩ := PySem.W.ksp_first hc
  have K0 := I.kIn
  have one := PySem.W.ksp_try (name := "__add__") K0 J hm.at_ hm.fn h
  obtain ⟨hh, g, d, tt, os⟩ := s
  have T1 : PySem.W.Looks (model X.prog X.w) hh (typeOf (.ref a)) (.ref C) := J.type
  have T2 : PySem.W.Looks (model X.prog X.w) hh (typeOf (.ref b)) (.ref C) := J2.type
  have T3 : PySem.W.Looks (model X.prog X.w) hh (fillsNumberSlot (.ref C) "add") true := PySem.W.fills_K K0 hcd hmro hm.at_
  unfold binaryOp
  refine wpAny_holding (wpAny_bind ?_)
  show wpAny _ _ (binaryOp1 "add" _ _) _ _ _
  unfold binaryOp1
  refine wpAny_bind (T1.at (wpAny_bind (T2.at (wpAny_bind (T3.at ?_)))))
  simp only [beq_self_eq_true, if_true]
  ksp_lk
  refine wpAny_mono one (fun r s' hr' => ?_) fun _ _ q => q
  obtain ⟨v, rfl, q⟩ := hr'
  ksp_lk
  exact q
end
/-! ### their mirrors -/
def negO (c : Str) (mm : List D → Hd → Option (Rs D)) : D → Hd → Option (Rs D) := fun x M => match x with
  | .ref i => (match M[i]? with
    | some (.ins c' fs) => if c' = c then mm [.ref i] M else none
    | _ => none)
  | _ => none
def lenO (c : Str) (mm : List D → Hd → Option (Rs D)) : D → Hd → Option (Rs D) := fun x M => match x with
  | .ref i => (match M[i]? with
    | some (.ins c' fs) => if c' = c then bnd (mm [.ref i] M) fun d M1 => (match d with
      | .int n => if 0 ≤ n ∧ n < 2 ^ 63 then some (.ok (.int n) M1) else none
      | _ => none) else none
    | _ => none)
  | _ => none
def addO (c : Str) (mm : List D → Hd → Option (Rs D)) : G2 := fun x y M => match x, y with
  | .ref i, .ref j => (match M[i]?, M[j]? with
    | some (.ins c1 fs), some (.ins c2 gs) => if c1 = c ∧ c2 = c then mm [.ref i, .ref j] M else none
    | _, _ => none)
  | _, _ => none
/-- a class that stands first in its own order of search -/
def SelfF (K : PySem.W.Frag) (mg : Str → Option Value) (c : Str) : Prop := ∀ C, mg c = some (.ref C) → PySem.W.selfFirst K C = true
def selfB (K : PySem.W.Frag) (c : Str) : Bool := PySem.W.selfFirst K (He.ga K c)
theorem selfF_of {K : PySem.W.Frag} {mg : Str → Option Value} {c : Str} (g : mg c = some (.ref (He.ga K c))) (h : selfB K c = true) : SelfF K mg c := fun C e => by
  rw [g] at e
  cases e
  exact h
section
variable {X : Cx} {z : Zx} {W : WX} {a b e : Expr} {fa fb : EF} {c : Str} {k n : Nat} {mm : List D → Hd → Option (Rs D)} {p' pos : Pos}
theorem de_negO (F : Mth X.prog X.w X.K X.mg X.base k c "__neg__" n mm) (tk : Takes X W) (hr : Room k X.A) (ha : DE X z W a fa) : DE X z W (.UnaryOp .USub a pos) (eUn (negO c mm) fa) := by
  obtain ⟨C, f, fd, ps, h1, h2, h3, h4, h5⟩ := F.ex
  constructor
  intro pins s σ H Q I g
  refine UnaryOp_ (thn (ha.run pins s σ H (fun v H1 => ∃ a dx fs, v = .ref a ∧ H1 a = some (.ins C dx fs) ∧ spD X.K X.mg n mm [.ref a] H1 Q (fun cls d H' => W cls d σ H')) I ?_) ?_)
  · obtain ⟨p, M, ρ, o, R, L, e, po⟩ := g
    refine gE_bnd R L e po fun d M1 p1 H1 v R1 L1 hl1 hp1 q1 e1 po1 => ?_
    unfold negO at e1
    cases d with
    | ref i =>
      dsimp only at e1
      split at e1
      · rename_i c' fs hi
        split at e1
        · rename_i hcc
          subst hcc
          obtain ⟨a, dx, ws, rfl, _, g2, g3⟩ := rep_ins R1 q1 hi h1
          exact ⟨a, dx, ws, rfl, g2, sp_of R1 (reps_cons q1 reps_nil) (F.ln _ _ _ e1) e1 po1⟩
        · cases e1
      · cases e1
    | _ => cases e1
  · rintro u s1 ⟨_, H1, I1, ru, a, dx, fs, rfl, there, q⟩
    cases ru
    exact neg_own I1 there h3 (run_fnAt h5 hr I1.env0 h4 (passAt tk σ) I1 (show Vals [V.ref a] [Value.ref a] from .cons rfl .nil) q)
theorem de_addO (F : Mth X.prog X.w X.K X.mg X.base k c "__add__" n mm) (S : SelfF X.K X.mg c) (tk : Takes X W) (hr : Room k X.A) (ha : DE X z W a fa) (hb : DE X z W b fb) : DE X z W (.BinOp a .Add b pos) (eOp (addO c mm) fa fb) := by
  obtain ⟨C, f, fd, ps, h1, h2, h3, h4, h5⟩ := F.ex
  constructor
  intro pins s σ H Q I g
  have g' : gE (Cx.k X z) W (rD (Cx.k X z)) fa σ H fun x H1 => gE (Cx.k X z) W (rD (Cx.k X z)) fb σ H1 fun y H2 => ∃ a b dx dy fs gs, x = .ref a ∧ y = .ref b ∧ H2 a = some (.ins C dx fs) ∧ H2 b = some (.ins C dy gs) ∧ spD X.K X.mg n mm [.ref a, .ref b] H2 Q (fun cls d H' => W cls d σ H') := by
    obtain ⟨p, M, ρ, o, R, L, e, po⟩ := g
    refine gE_bnd R L e po fun d M1 p1 H1 v R1 L1 hl1 hp1 q1 e1 po1 => ?_
    refine gE_bnd R1 L1 e1 po1 fun d2 M2 p2 H2 v2 R2 L2 hl2 hp2 q2 e2 po2 => ?_
    have q1' := Rep.up hp2 hl2 _ q1
    unfold addO at e2
    cases d with
    | ref i =>
      cases d2 with
      | ref j =>
        dsimp only at e2
        split at e2
        · rename_i c1 fs c2 gs hi hj
          split at e2
          · rename_i hcc
            obtain ⟨rfl, rfl⟩ := hcc
            obtain ⟨a, dx, ws, rfl, _, g2, g3⟩ := rep_ins R2 q1' hi h1
            obtain ⟨b, dy, ws2, rfl, _, k2, k3⟩ := rep_ins R2 q2 hj h1
            exact ⟨a, b, dx, dy, ws, ws2, rfl, rfl, g2, k2, sp_of R2 (reps_cons q1' (reps_cons q2 reps_nil)) (F.ln _ _ _ e2) e2 po2⟩
          · cases e2
        · cases e2
      | _ => cases e2
    | _ => cases e2
  refine wpAny_BinOp (binT ha hb I g' fun v u s2 x y H2 I2 rx ry q => ?_)
  obtain ⟨a, b, dx, dy, fs, gs, rfl, rfl, ea, eb, q⟩ := q
  cases rx
  cases ry
  refine add_own I2 ea eb h3 (S C h1) (wpAny_mono (run_fnAt h5 hr I2.env0 h4 (passAt tk σ) I2 (show Vals [V.ref a, V.ref b] [Value.ref a, Value.ref b] from .cons rfl (.cons rfl .nil)) q) ?_ fun _ _ q => q)
  rintro w s3 ⟨y, H3, I3, ry, hq⟩
  have : ∃ u, w = u ∧ u ≠ .notImplemented := ⟨w, rfl, fun e => by
    subst e
    cases y <;> first | exact nomatch ry | (obtain ⟨_, q⟩ := ry; exact nomatch q)⟩
  obtain ⟨u, rfl, hu⟩ := this
  cases w <;> first | exact (hu rfl).elim | exact ⟨y, H3, I3, ry, hq⟩
theorem de_lenO (F : Mth X.prog X.w X.K X.mg X.base k c "__len__" n mm) (tk : Takes X W) (hr : Room (k + 1) X.A) (ha : DE X z W e fa) (hm : X.mg "len" = none) (hg : Gl X "len" := by rfl) (he : starEach [e] X.env = (false, eval e X.env) :: starEach [] X.env := by rfl) : DE X z W (.Call (.Name "len" p') [e] [] pos) (eUn (lenO c mm) fa) := by
  obtain ⟨C, f, fd, ps, h1, h2, h3, h4, h5⟩ := F.ex
  constructor
  intro pins s σ H Q I g
  have g' : gE (Cx.k X z) W (rD (Cx.k X z)) fa σ H fun v H1 => ∃ w, [v] = [w] ∧ ∃ a dx fs, w = .ref a ∧ H1 a = some (.ins C dx fs) ∧ spD X.K X.mg n mm [.ref a] H1 (fun v H2 => ∃ n : Int, v = .int n ∧ 0 ≤ n ∧ n < 2 ^ 63 ∧ Q v H2) (fun cls d H' => W cls d σ H') := by
    obtain ⟨p, M, ρ, o, R, L, e, po⟩ := g
    refine gE_bnd R L e po fun d M1 p1 H1 v R1 L1 hl1 hp1 q1 e1 po1 => ?_
    unfold lenO at e1
    cases d with
    | ref i =>
      dsimp only at e1
      split at e1
      · rename_i c' fs hi
        split at e1
        · rename_i hcc
          subst hcc
          obtain ⟨a, dx, ws, rfl, _, g2, g3⟩ := rep_ins R1 q1 hi h1
          refine ⟨.ref a, rfl, a, dx, ws, rfl, g2, ?_⟩
          cases em : mm [.ref i] M1 with
          | none => rw [em] at e1; cases e1
          | some o2 =>
            rw [em] at e1
            refine ⟨p1, M1, _, o2, R1, reps_cons q1 reps_nil, F.ln _ _ _ em, em, ?_⟩
            cases o2 with
            | er c2 M2 =>
              cases e1
              exact po1
            | ok d M2 =>
              rw [bnd_ok] at e1
              cases d with
              | int n =>
                dsimp only at e1
                split at e1
                · rename_i hn
                  cases e1
                  intro p2 H2 v hp hl R3 hv
                  have hv' : v = .int n := by unfold Rep at hv; exact hv
                  exact ⟨n, hv', hn.1, hn.2, po1 p2 H2 v hp hl R3 hv⟩
                · cases e1
              | _ => cases e1
        · cases e1
      · cases e1
    | _ => cases e1
  refine wpAny_Call_Name_kw (ld_blt I hg hm PySem.boot_len ?_ (by decide) (by decide))
  refine PyProof.Rows.callWith_builtin1 (thn ((pa_cons ha pa_nil he).run pos pins s σ H (fun vs H1 => ∃ w, vs = [w] ∧ ∃ a dx fs, w = .ref a ∧ H1 a = some (.ins C dx fs) ∧ spD X.K X.mg n mm [.ref a] H1 (fun v H2 => ∃ n : Int, v = .int n ∧ 0 ≤ n ∧ n < 2 ^ 63 ∧ Q v H2) (fun cls d H' => W cls d σ H')) I g') ?_) he rfl
  · rintro us s1 ⟨vs, H1, I1, r, v, rfl, a, dx, fs, rfl, there, q⟩
    obtain ⟨u, rfl, ru⟩ := vals1 r
    cases ru
    refine len_own I1 there h3 (wpAny_mono (run_fnAt h5 hr.in1 I1.env0.in1 h4 (passAt tk σ) I1 (show Vals [V.ref a] [Value.ref a] from .cons rfl .nil) q) ?_ fun _ _ q => q)
    rintro w s3 ⟨y, H3, I3, ry, n, rfl, n0, n1, hq⟩
    obtain ⟨t, rfl⟩ := ry
    exact ⟨n, t, rfl, n0, n1, .int n, H3, I3.tok _, ⟨_, rfl⟩, hq⟩
end
end DI

end

section
set_option Elab.async false
set_option linter.all false
set_option maxRecDepth 100000
set_option maxHeartbeats 4000000
/-! DI19: max of three ints, d[k] = v of dicts with text keys, either of two mirrors. -/
namespace DI
open PySem PySem.Spec PyProof.Rows L2

/-! ### either mirror -/
def Or2 (f f1 f2 : EF) : Prop := ∀ r M o, f r M = some o → f1 r M = some o ∨ f2 r M = some o
theorem de_two {X : Cx} {z : Zx} {W : WX} {e : Expr} {f f1 f2 : EF} (h1 : DE X z W e f1) (h2 : DE X z W e f2) (h : Or2 f f1 f2) : DE X z W e f := by
  constructor
  intro pins s σ H Q I g
  obtain ⟨p, M, ρ, o, R, L, e, po⟩ := g
  rcases h _ _ _ e with e | e
  · exact h1.run pins s σ H Q I ⟨p, M, ρ, o, R, L, e, po⟩
  · exact h2.run pins s σ H Q I ⟨p, M, ρ, o, R, L, e, po⟩
/-- x[i] of a list, a tuple, a text, or of a dict with text keys -/
def ixdG : G2 := fun x y M => match y with
  | .str s => dgetG x (.str s) M
  | y => ixG x y M
theorem or_ixd {fa fb : EF} : Or2 (eOp ixdG fa fb) (eOp ixG fa fb) (eOp dgetG fa fb) := by
  intro r M o e
  unfold eOp at e ⊢
  cases ea : fa r M with
  | none => rw [ea] at e; cases e
  | some x =>
    rw [ea] at e
    cases x with
    | er c M1 => exact .inl e
    | ok x M1 =>
      rw [bnd_ok] at e
      simp only [bnd_ok]
      cases eb : fb r M1 with
      | none => rw [eb] at e; cases e
      | some y =>
        rw [eb] at e
        cases y with
        | er c M2 => exact .inl e
        | ok y M2 =>
          rw [bnd_ok] at e
          simp only [bnd_ok]
          cases y with
          | str s => exact .inr e
          | _ => exact .inl e
/-! ### max of three -/
def max3 : List D → Hd → Option (Rs D) := fun ds M => match ds with
  | [.int i, .int j, .int k] => some (.ok (.int (if k > (if j > i then j else i) then k else (if j > i then j else i))) M)
  | _ => none
@[simp] theorem max3_int {i j k : Int} {M : Hd} : max3 [.int i, .int j, .int k] M = some (.ok (.int (if k > (if j > i then j else i) then k else (if j > i then j else i))) M) := rfl
theorem ga3 {k : Kx} {p : List Addr} {H : Hp} {i j l : Int} {vs : List V} (q : Reps k.K p H [.int i, .int j, .int l] vs) : vs = [.int i, .int j, .int l] := by
  unfold Reps at q
  obtain ⟨v, ws, rfl, a, q⟩ := q
  rw [ga2 (k := k) q]
  unfold Rep at a
  rw [a]
theorem nu3 {i j k : Int} : nuMax3 (.int i) (.int j) (.int k) = some (V.int (if k > (if j > i then j else i) then k else (if j > i then j else i))) := by
  have two : ∀ a b : Int, nuMax2 (.int a) (.int b) = some (V.int (if b > a then b else a)) := fun a b => by
    unfold nuMax2 nuLt nuCB
    simp only [Option.map_some]
    by_cases h : a < b
    · rw [decide_eq_true h, if_pos rfl, if_pos h]
    · rw [decide_eq_false h, if_neg Bool.false_ne_true, if_neg h]
  unfold nuMax3
  rw [two]
  show nuMax2 (V.int _) (.int k) = _
  rw [two]
section
variable {X : Cx} {z : Zx} {W : WX} {e : Expr} {es : List Expr} {g : AF} {pos : Pos}
theorem de_max3 {p' : Pos} (hc : X.calm = true) (ha : DA X z W (e :: es) g) (hm : X.mg "max" = none) (hg : Gl X "max" := by rfl) (he : starEach (e :: es) X.env = (false, eval e X.env) :: starEach es X.env := by rfl) (hpl : (backTo pos (starEach es X.env)).any (·.1) = false := by rfl) :
    DE X z W (.Call (.Name "max" p') (e :: es) [] pos) (eCB max3 g) := by
  refine (pe_callB (call_max3Nu hc) hg hm PyProof.Rows.boot_max ha (he := he) (hpl := hpl)).imp ?_
  rintro σ H Q ⟨p, M, ρ, o, R, L, e, po⟩
  refine gE_bnd R L e po fun d M1 p1 H1 v R1 L1 hl1 hp1 q1 e1 po1 => ?_
  unfold max3 at e1
  split at e1
  · cases e1
    exact ⟨_, _, _, _, ga3 (k := Cx.k X z) q1, nu3, po1.ok R1 rep_int⟩
  · cases e1
end
/-! ### d[k] = v -/
def putS (s : Str) (d : D) (kvs : List (Str × D)) : List (Str × D) := if (kvs.any fun x => decide (x.1 = s)) = true then kvs.map (fun x => if x.1 = s then (x.1, d) else x) else kvs ++ [(s, d)]
def sPutD (f fo fi : EF) : SF := fun r M => exB (f r M) r fun d M1 => exB (fo r M1) r fun o M2 => exB (fi r M2) r fun i M3 => match o, i with
  | .ref p, .str s => (match M3[p]? with
    | some (.dic kvs) => if kvs.length < 15 then some (.nx r, M3.set p (.dic (putS s d kvs))) else none
    | _ => none)
  | _, _ => none
section
variable {K : PySem.W.Frag} {p : List Addr} {H : Hp} {s : Str} {d : D} {v : V}
theorem put_any : ∀ {kvs : List (Str × D)} {ws : List (Key × V)}, Paired (fun (x : Str × D) (y : Key × V) => y.1 = Sum.inr x.1 ∧ Rep K p H x.2 y.2) kvs ws → (ws.any fun y => decide (y.1 = Sum.inr s)) = kvs.any fun x => decide (x.1 = s)
  | _, _, .nil => rfl
  | (x, e) :: kvs, (y, u) :: ws, .cons h t => by
    obtain ⟨h1, h2⟩ := h
    have h1 : y = Sum.inr x := h1
    subst h1
    rw [List.any_cons, List.any_cons, put_any t]
    congr 1
    by_cases hx : x = s
    · rw [decide_eq_true hx, decide_eq_true (by rw [hx])]
    · rw [decide_eq_false hx, decide_eq_false fun q => hx (Sum.inr.inj q)]
theorem put_map (hd : Rep K p H d v) : ∀ {kvs : List (Str × D)} {ws : List (Key × V)}, Paired (fun (x : Str × D) (y : Key × V) => y.1 = Sum.inr x.1 ∧ Rep K p H x.2 y.2) kvs ws →
    Paired (fun (x : Str × D) (y : Key × V) => y.1 = Sum.inr x.1 ∧ Rep K p H x.2 y.2) (kvs.map fun x => if x.1 = s then (x.1, d) else x) (ws.map fun y => if y.1 = Sum.inr s then (y.1, v) else y)
  | _, _, .nil => .nil
  | (x, e) :: kvs, (y, u) :: ws, .cons h t => by
    obtain ⟨h1, h2⟩ := h
    have h1 : y = Sum.inr x := h1
    subst h1
    rw [List.map_cons, List.map_cons]
    refine .cons ?_ (put_map hd t)
    by_cases hx : x = s
    · subst hx
      rw [if_pos rfl, if_pos rfl]
      exact ⟨rfl, hd⟩
    · rw [if_neg hx, if_neg fun q => hx (Sum.inr.inj q)]
      exact ⟨rfl, h2⟩
theorem put_end (hd : Rep K p H d v) : ∀ {kvs : List (Str × D)} {ws : List (Key × V)}, Paired (fun (x : Str × D) (y : Key × V) => y.1 = Sum.inr x.1 ∧ Rep K p H x.2 y.2) kvs ws →
    Paired (fun (x : Str × D) (y : Key × V) => y.1 = Sum.inr x.1 ∧ Rep K p H x.2 y.2) (kvs ++ [(s, d)]) (ws ++ [(Sum.inr s, v)])
  | _, _, .nil => .cons ⟨rfl, hd⟩ .nil
  | _ :: _, _ :: _, .cons h t => .cons h (put_end hd t)
theorem put_pair (hd : Rep K p H d v) {kvs : List (Str × D)} {ws : List (Key × V)} (h : Paired (fun (x : Str × D) (y : Key × V) => y.1 = Sum.inr x.1 ∧ Rep K p H x.2 y.2) kvs ws) :
    Paired (fun (x : Str × D) (y : Key × V) => y.1 = Sum.inr x.1 ∧ Rep K p H x.2 y.2) (putS s d kvs) (putK ws (Sum.inr s) v) := by
  unfold putS putK
  rw [put_any h]
  by_cases hx : (kvs.any fun x => decide (x.1 = s)) = true
  · rw [if_pos hx, if_pos hx]
    exact put_map hd h
  · rw [if_neg hx, if_neg hx]
    exact put_end hd h
end
section
variable {X : Cx} {z : Zx} {W : WX} {o i e : Expr} {fo fi fe : EF} {pos pos' : Pos}
theorem ds_putD (hu : X.A.units + 1 < cLine) (he : DE X z W e fe) (ho : DE X z W o fo) (hi : DE X z W i fi) (hs : swapsWith e (some (.Subscript o i pos')) pos.line X.env = pure false := by rfl) : DS X z W (.Assign [.Subscript o i pos'] e pos) (sPutD fe fo fi) := by
  refine (ps_dput hu ho hi he hs).imp ?_
  rintro Dn σ H ⟨p, M, ρ, oo, R, L, e, po⟩
  unfold sPutD at e
  refine gE_exB R L e po fun d M1 p1 H1 v R1 L1 hl1 hp1 q1 e1 po1 => ?_
  refine gE_exB R1 L1 e1 po1 fun d2 M2 p2 H2 v2 R2 L2 hl2 hp2 q2 e2 po2 => ?_
  refine gE_exB R2 L2 e2 po2 fun d3 M3 p3 H3 v3 R3 L3 hl3 hp3 q3 e3 po3 => ?_
  cases d2 with
  | ref i =>
    cases d3 with
    | str s =>
      dsimp only at e3
      split at e3
      · rename_i kvs hk
        split at e3
        · rename_i hlen
          cases e3
          have q2' := Rep.up hp3 hl3 _ q2
          have q1' := Rep.up hp3 hl3 _ (Rep.up hp2 hl2 _ q1)
          unfold Rep at q2' q3
          obtain ⟨a, ha, rfl⟩ := q2'
          obtain ⟨b, hb, ws, w1, w2⟩ := R3.ob i _ hk
          rw [ha] at hb
          cases hb
          subst q3
          obtain ⟨R4, hl4⟩ := R3.put (u := .dK (putK ws (Sum.inr s) v)) (o := .dic (putS s d kvs)) ha fun hl => ⟨_, upd_same, put_pair (Rep.up (List.prefix_refl _) hl _ q1') (paired_mono (fun x y q => ⟨q.1, Rep.up (List.prefix_refl _) hl _ q.2⟩) w2)⟩
          have hz : ws.length < sizeLine := by rw [← paired_len w2, sizeLine_eq]; omega
          exact ⟨a, _, rfl, DPut.k (k := Sum.inr s) w1 hz, po3 p3 _ σ (List.prefix_refl p3) hl4 R4 (L3.up (List.prefix_refl p3) hl4)⟩
        · cases e3
      · cases e3
    | _ => cases e3
  | _ => cases e3
end
end DI

end

section
set_option Elab.async false
set_option linter.all false
set_option maxRecDepth 100000
set_option maxHeartbeats 4000000
/-! DI20: names = a list; isinstance of an instance and its own class. -/
namespace DI
open PySem PySem.Spec PyProof.Rows L2
def sAsgL (l : List Nat) (f : EF) : SF := fun r M => exB (f r M) r fun d M1 => match d with
  | .ref i => (match M1[i]? with
    | some (.lst ds) => (match setAll l ds r with
      | some r1 => some (.nx r1, M1)
      | none => none)
    | _ => none)
  | _ => none
def gL (k : Kx) (l : List Nat) : TG := fun v σ H Q => ∃ p M r i ds r1, Rl k.K k.mg p M H ∧ Sl k.K k.z p H r σ ∧ Rep k.K p H (.ref i) v ∧ M[i]? = some (.lst ds) ∧ setAll l ds r = some r1 ∧
  ∀ σ', Sl k.K k.z p H r1 σ' → Q σ' H
theorem setAll_len : ∀ (l : List Nat) (ds : List D) (r r1 : Ev), setAll l ds r = some r1 → ds.length = l.length
  | [], [], _, _, _ => rfl
  | [], _ :: _, _, _, e => nomatch e
  | _ :: _, [], _, _, e => nomatch e
  | i :: l, d :: ds, r, r1, e => by rw [List.length_cons, List.length_cons, setAll_len l ds _ _ e]
section
variable {X : Cx} {z : Zx} {W : WX} {a b c e : Expr} {fa fb fc f : EF} {pos : Pos}
theorem dg_lst {es : List Expr} {kk : Nat} {l : List Nat} {n : Nat} (hc : X.calm = true) (h : DGs X z es l) (hl : l.length = n := by rfl) (hn : (assignEach es X.env).length = n := by rfl) (hst : (assignEach es X.env).findIdx? (·.1) = none := by rfl) : PG X (.Tuple es kk pos) (gL (Cx.k X z) l) := by
  refine (pg_unl (n := n) hc h hn hst).imp ?_
  rintro v σ H Q ⟨p, M, r, i, ds, r1, R, L, q, g, e, k⟩
  obtain ⟨a, vs, rfl, _, s, rr⟩ := rep_lst R q g
  exact ⟨a, vs, rfl, SqL.of s, by rw [← reps_len rr, setAll_len l ds r r1 e, hl], p, M, r, ds, r1, R, L, rr, e, fun σ' L' _ => k σ' L'⟩
theorem ds_asgL {es : List Expr} {kk : Nat} {p2 : Pos} {l : List Nat} (he : DE X z W e f) (hg : PG X (.Tuple es kk p2) (gL (Cx.k X z) l)) (hs : swapsWithSole [.Tuple es kk p2] e pos.line X.env = pure false := by rfl) (hw : swappedStores [.Tuple es kk p2] e X.env = pure none := by rfl)
    (h1 : (assignEach [.Tuple es kk p2] X.env).map (·.2) = [assign (.Tuple es kk p2) X.env] := by rfl) : DS X z W (.Assign [.Tuple es kk p2] e pos) (sAsgL l f) := by
  refine (ps_asg he hg hs hw h1).imp ?_
  rintro Dn σ H ⟨p, M, ρ, o, R, L, e, po⟩
  refine gE_exB R L e po fun d M1 p1 H1 v R1 L1 hl1 hp1 q1 e1 po1 => ?_
  cases d with
  | ref i =>
    dsimp only at e1
    split at e1
    · rename_i ds hg
      split at e1
      · rename_i r1 hr1
        cases e1
        exact ⟨p1, M1, ρ, i, ds, r1, R1, L1, q1, hg, hr1, fun σ' L' => po1.nx R1 L'⟩
      · cases e1
    · cases e1
  | _ => cases e1
/-! ### isinstance(x, c), c an own class: x is of this class, or a plain thing -/
def isoG (c : Str) : D → Hd → Option (Rs D) := fun d M => match d with
  | .ref i => (match M[i]? with
    | some (.ins c' _) => if c' = c then some (.ok (.bl true) M) else none
    | _ => none)
  | _ => none
structure InsF (K : PySem.W.Frag) (mg : Str → Option Value) (c : Str) : Prop where
  ex : ∃ C, mg c = some (.ref C) ∧ C8.InsC K C
theorem de_iso {x : Str} {p' p2 : Pos} (F : InsF X.K X.mg x) (ha : DE X z W e f) (hm : X.mg "isinstance" = none) (hg : Gl X "isinstance" := by rfl) (hgT : Gl X x := by rfl) (hdb : (x == ("__debug__" : Str)) = false := by decide)
    (he : starEach [e, .Name x p2] X.env = (false, eval e X.env) :: starEach [.Name x p2] X.env := by rfl) (hpl : (backTo pos (starEach [.Name x p2] X.env)).any (·.1) = false := by rfl) (he2 : starEach [.Name x p2] X.env = (false, eval (.Name x p2) X.env) :: starEach [] X.env := by rfl) :
    DE X z W (.Call (.Name "isinstance" p') [e, .Name x p2] [] pos) (eUn (isoG x) f) := by
  obtain ⟨C, hC, ic⟩ := F.ex
  refine (pe_callB (C8.call_isC ic) hg hm PyProof.Rows.boot_isinstance (pa_cons ha (pa_cons (pe_glob (v := .ref C) hgT hC rfl hdb) pa_nil he2) he) (he := he) (hpl := hpl)).imp ?_
  rintro σ H Q ⟨p, M, ρ, o, R, L, e, po⟩
  refine gE_bnd R L e po fun d M1 p1 H1 v R1 L1 hl1 hp1 q1 e1 po1 => ?_
  unfold isoG at e1
  cases d with
  | ref i =>
    dsimp only at e1
    split at e1
    · rename_i c' fs hg
      split at e1
      · rename_i hcc
        subst hcc
        cases e1
        unfold Rep at q1
        obtain ⟨a, ha, rfl⟩ := q1
        obtain ⟨o, ho, hO⟩ := R1.there ha
        rw [hg] at ho
        cases ho
        obtain ⟨C', dx, ws, hC', hH, _⟩ := hO
        have hC2 : X.mg c' = some (.ref C') := hC'
        rw [hC] at hC2
        cases hC2
        exact ⟨a, dx, ws, rfl, hH, po1.ok R1 rep_bl⟩
      · cases e1
    · cases e1
  | _ => cases e1
end
def insB (K : PySem.W.Frag) (x : Str) : Bool :=
  He.eqO (PySem.W.findIn K (.ref (He.ga K x)) "__class__") (some (some (.builtin "object.__class__"))) && (He.eqO (PySem.W.specialIn K (.builtin "object.__class__") "__get__") (some (some (.builtin "getset_descriptor.__get__"))) && (decide (PySem.W.takesIn K (.builtin "object.__class__") = some true) && (decide (PySem.W.mroIn K (He.ga K x) (.type "object") = some true) && decide (PySem.W.kitOne K (.ref (He.ga K x)) (.ref (He.ga K x)) = some true))))
theorem insF_of {K : PySem.W.Frag} {mg : Str → Option Value} {x : Str} (g : mg x = some (.ref (He.ga K x))) (c : Cls K (He.ga K x)) (h : insB K x = true) : InsF K mg x := by
  obtain ⟨h1, h⟩ := He.ba h
  obtain ⟨h2, h⟩ := He.ba h
  obtain ⟨h3, h⟩ := He.ba h
  obtain ⟨h4, h5⟩ := He.ba h
  exact ⟨⟨_, g, c, He.eqO_ok h1, He.eqO_ok h2, of_decide_eq_true h3, of_decide_eq_true h4, of_decide_eq_true h5⟩⟩
end DI

end

section
set_option Elab.async false
set_option linter.all false
set_option maxRecDepth 100000
set_option maxHeartbeats 4000000
/-! DI21: a def that goes by another name of the module. -/
namespace DI
open PySem PySem.Spec PyProof.Rows L2
theorem dfn_as {P : Program} {w : World} {K : PySem.W.Frag} {mg : Str → Option Value} {base : Heap} {x y qual : Str} {params : Arguments} {body : List Stmt} {scope : Scope} {f : Addr} {fd : FuncData} {N ps : List Str} {k : Nat} {g : SF}
    (F : FunD K x qual params body scope [] [] f fd) (hmg : mg y = some (.ref f)) (hb : Binds K fd ps []) (h : FnOk P w K mg base (L2.CX P w) k f fd ps (spD K mg ps.length (mir N.length ps.length g))) : Dfn P w K mg base k y ps.length (mir N.length ps.length g) :=
  ⟨fun ds M o e => mir_len e, f, fd, ps, hmg, F.kp, hb, h⟩
end DI

end

section
set_option Elab.async false
set_option linter.all false
set_option maxRecDepth 100000
set_option maxHeartbeats 4000000
/-! DI22: len(set(..)) of ints, list.pop(i). -/
namespace DI
open PySem PySem.Spec PyProof.Rows L2
def ded (ns : List Int) : List Int := ns.foldl (fun acc x => if acc.any (· == x) then acc else acc ++ [x]) []
theorem ded_first (ns : List Int) : PyProof.Rows.firstMet (fun i => ns.getD i 0) ns.length = ded ns := by
  unfold PyProof.Rows.firstMet ded
  have e : (List.range ns.length).map (fun i => ns.getD i 0) = ns := by
    apply List.ext_getElem
    · simp
    · intro i h1 h2
      rw [List.getElem_map, List.getElem_range, List.getD_eq_getElem?_getD, List.getElem?_eq_getElem h2]
      rfl
  rw [e]
  rfl
theorem ded_len (ns : List Int) : (ded ns).length ≤ ns.length := by
  rw [← ded_first]
  exact PyProof.Rows.firstMet_length_le _ _
def tLenSetA (K : PySem.W.Frag) (ta : TE) : TE := fun σ H Q => ta σ H fun x H1 => ∃ (l : Addr) (ns : List Int), x = .ref l ∧ SqL K H1 l (ns.map V.int) ∧ ns.length ≤ 4000 ∧ Q (.int ((ded ns).length : Nat)) H1
theorem pe_lenSetA {X : Cx} {a : Expr} {ta : TE} {p p2 q pos : Pos} (hg : Gl X "len") (hm : X.mg "len" = none) (hg2 : Gl X "set") (hm2 : X.mg "set" = none) (ha : PE X a ta) (hc : X.calm = true := by rfl)
    (na : starEach [a] X.env = (false, eval a X.env) :: starEach [] X.env := by rfl) : PE X (.Call (.Name "len" p) [.Call (.Name "set" p2) [a] [] q] [] pos) (tLenSetA X.K ta) := by
  refine ⟨fun pins s σ H Q I h => ?_⟩
  refine Call_ (ld_blt I hg hm boot_len ?_)
  refine PyProof.Rows.callWith_builtin1 (PyProof.Rows.args_cons ?_ rfl) rfl rfl
  refine Call_ (ld_blt I hg2 hm2 boot_set ?_)
  refine PyProof.Rows.callWith_type1 (PyProof.Rows.args_cons (thn (ha.run pins s σ H _ I h) fun v s1 ⟨x, H1, I1, r1, q1⟩ => PyProof.Rows.args_nil ?_) na) na rfl
  obtain ⟨l, ns, rfl, hq, hl, q1⟩ := q1
  cases r1
  obtain ⟨its, r, pl, hz⟩ := I1.list hq
  have hlen : its.toArray.size = ns.length := by rw [List.size_toArray, ← r.length, List.length_map]
  refine call_set_list (I1.ok.hd hc) pl.isList (by simpa using RZ.intsAre_vals r) (by rw [hlen]; unfold scanBound; omega) fun h' tk hS hk => ?_
  refine PyProof.Rows.args_nil ?_
  rw [hlen, ded_first] at hS
  have hdl := ded_len ns
  obtain ⟨o, es, ep, t, ho, hex, hd, _, _, _, hf, hn⟩ := hS
  have I2 : Inv X pins σ H1 { s1 with heap := h', toks := tk } := I1.kept fun b o e => hk b o (Heap.lt_size e) e
  exact call_len_set ho hex hd hf (by rw [hn] <;> omega) ⟨.int (ded ns).length, H1, I2.tok _, ⟨_, by rw [hn]⟩, q1⟩
def lenSetG : D → Hd → Option (Rs D) := fun d M => match d with
  | .ref i => (match M[i]? with
    | some (.lst ds) => (match ds.mapM intOf with
      | some ns => if ns.length ≤ 4000 then some (.ok (.int (ded ns).length) M) else none
      | _ => Option.none)
    | _ => Option.none)
  | _ => Option.none
theorem de_lenSet {X : Cx} {z : Zx} {W : WX} {e : Expr} {f : EF} {pos p p2 q : Pos} (hc : X.calm = true) (ha : DE X z W e f) (hm : X.mg "len" = Option.none) (hm2 : X.mg "set" = Option.none) (hg : Gl X "len" := by rfl) (hg2 : Gl X "set" := by rfl) (he : starEach [e] X.env = (false, eval e X.env) :: starEach [] X.env := by rfl) : DE X z W (.Call (.Name "len" p) [.Call (.Name "set" p2) [e] [] q] [] pos) (eUn lenSetG f) := by
  refine (pe_lenSetA hg hm hg2 hm2 ha hc he).imp ?_
  rintro σ H Q ⟨p, M, ρ, o, R, L, e, po⟩
  refine gE_bnd R L e po fun d M1 p1 H1 v R1 L1 hl1 hp1 q1 e1 po1 => ?_
  cases d with
  | ref i =>
    unfold lenSetG at e1
    dsimp only at e1
    split at e1
    · rename_i ds ho
      obtain ⟨a, vs, rfl, ha, s, r0⟩ := rep_lst R1 q1 ho
      split at e1
      · rename_i ns hn
        split at e1
        · rename_i hl
          cases e1
          have := reps_ints r0 hn
          subst this
          exact ⟨a, ns, rfl, SqL.of s, hl, po1.ok R1 rep_int⟩
        · cases e1
      · cases e1
    · cases e1
  | _ => cases e1
def popAtG (i : Nat) (ds as : List D) (M : Hd) : Option (Rs D) := match as with
  | [.int j] => if 0 ≤ j ∧ j < 1000000 then (match ds[j.toNat]? with
    | some y => some (.ok y (M.set i (.lst (ds.eraseIdx j.toNat))))
    | none => none) else none
  | _ => none
theorem reps_eraseIdx {k : Kx} {p : List Addr} {H : Hp} {ds : List D} {vs : List V} (n : Nat) (h : Reps k.K p H ds vs) : Reps k.K p H (ds.eraseIdx n) (vs.eraseIdx n) := by
  rw [List.eraseIdx_eq_take_drop_succ, List.eraseIdx_eq_take_drop_succ]
  exact reps_app (reps_take n h) (reps_drop (n + 1) h)
theorem de_popAt {X : Cx} {z : Zx} {W : WX} {a e : Expr} {es : List Expr} {fa : EF} {g : AF} {ap pos : Pos} (ha : DE X z W a fa) (hb : DA X z W (e :: es) g) (hbm : attributeBase a "pop" X.env (eval a X.env) = eval a X.env := by rfl) (he : starEach (e :: es) X.env = (false, eval e X.env) :: starEach es X.env := by rfl)
    (hfew : ((backTo pos (starEach (e :: es) X.env)).all (fun x => !x.1) && (backToKw pos (keywordEach [] X.env)).all (fun x => x.1.isSome) && decide ((e :: es).length + ([] : List Keyword).length + (if ([] : List Keyword).isEmpty then 0 else 1) < 30)) = true := by rfl)
    (hln : (ap.endLine == pos.line) = true := by rfl) (hpl : (backTo pos (starEach es X.env)).any (·.1) = false := by rfl) : DE X z W (.Call (.Attribute a "pop" ap) (e :: es) [] pos) (eLm popAtG fa g) := by
  refine (pe_bm PySem.F.plainAttrs_list PySem.F.slot_list_pop PySem.F.type_list_pop mt_popAt ha hb hbm hfew hln he hpl).imp fun σ H Q q => ?_
  refine gE_lm (k := Cx.k X z) (fun {p M H a i ds vs as ws o Q} σ R ha ho s r0 q1 e po => ?_) q
  unfold popAtG at e
  split at e
  · rename_i j
    split at e
    · rename_i hj
      split at e
      · rename_i y hy
        cases e
        obtain ⟨v, rfl, q3⟩ := reps1 q1
        cases q3
        obtain ⟨u, h1, h2⟩ := reps_get r0 hy
        have hlt : j.toNat < vs.length := (List.getElem?_eq_some_iff.mp h1).1
        refine ⟨a, vs, j, j.toNat, u, rfl, rfl, s, by omega, by omega, ?_, h1, rep_put R ha (reps_eraseIdx (k := Cx.k X z) _ r0) h2 po⟩
        unfold seqIndex?
        dsimp only
        have e1 : (if j < 0 then j + (vs.length : Int) else j) = j := if_neg (by omega)
        rw [e1, if_pos (by simp; omega)]
      · cases e
    · cases e
  · cases e
end DI

end

section
set_option Elab.async false
set_option linter.all false
set_option maxRecDepth 100000
set_option maxHeartbeats 4000000
/-! DI23: o.f += e; properties of own classes; the head's hook with properties. -/
namespace DI
open PySem PySem.Spec PyProof.Rows L2

/-- o.f op= e -/
def sFldA (c f : Str) (g : G2) (fo fe : EF) : SF := fun r M => exB (fo r M) r fun x M1 => match x with
  | .ref i => (match M1[i]? with
    | some (.ins c' fs) => if c' = c then (match fs.lookup f with
      | some d => exB (fe r M1) r fun e M2 => exB (g d e M2) r fun z M3 => (match M3[i]? with
        | some (.ins c2 fs2) => if c2 = c ∧ fs2.length < 1000 then some (.nx r, M3.set i (.ins c (putFD f z fs2))) else none
        | _ => none)
      | none => none) else none
    | _ => none)
  | _ => none
section
variable {X : Cx} {z : Zx} {W : WX} {a o e : Expr} {fa fo fe : EF} {c f : Str} {fl : List Str} {pos pos' : Pos}
theorem ds_fldaug {op : Operator} {r : R2} {g : G2} (F : ClsK X.K X.mg c fl) (hf : f ∈ fl) (hp : PIp X op r) (hg : OD (Cx.k X z) r g) (ho : DE X z W o fo) (he : DE X z W e fe) : DS X z W (.AugAssign (.Attribute o f pos') op e pos) (sFldA c f g fo fe) := by
  obtain ⟨C, h1, h2, h3⟩ := F.ex
  refine (ps_fldaug (rd := r) ho he hp).imp ?_
  rintro Dn σ H ⟨p, M, ρ, oo, R, L, e, po⟩
  unfold sFldA at e
  refine gE_exB R L e po fun d1 M1 p1 H1 v1 R1 L1 hl1 hp1 q1 e1 po1 => ?_
  cases d1 with
  | ref i =>
    dsimp only at e1
    split at e1
    · rename_i c' fs hi
      split at e1
      · rename_i hcc
        subst hcc
        obtain ⟨a, dx, ws, rfl, g1, g2, g3⟩ := rep_ins R1 q1 hi h1
        split at e1
        · rename_i d hl
          obtain ⟨w, w1, w2⟩ := fld_get g3 hl
          refine ⟨a, C, dx, ws, w, rfl, g2, h2, h3 f hf, w1, ?_⟩
          refine gE_exB R1 L1 e1 po1 fun d2 M2 p2 H2 v2 R2 L2 hl2 hp2 q2 e2 po2 => ?_
          cases eg : g d d2 M2 with
          | none => rw [eg] at e2; cases e2
          | some o2 =>
            refine hg W σ R2 (Rep.up hp2 hl2 _ w2) q2 eg ?_
            rw [eg] at e2
            cases o2 with
            | er c M3 =>
              cases e2
              exact fun p3 H3 C hp3 hl3 R3 q3 => po2 p3 H3 σ C hp3 hl3 R3 (L2.up hp3 hl3) q3
            | ok d3 M3 =>
              intro p3 H3 v3 hp3 hl3 R3 q3
              have e2 : (match M3[i]? with
                | some (O.ins c2 fs2) => if c2 = c' ∧ fs2.length < 1000 then some (Fl.nx ρ, M3.set i (.ins c' (putFD f d3 fs2))) else none
                | _ => none) = some oo := e2
              split at e2
              · rename_i c2 fs2 hi3
                split at e2
                · rename_i hcc
                  obtain ⟨rfl, hlen⟩ := hcc
                  have q1' := Rep.up (hp2.trans hp3) (hl2.trans hl3) _ q1
                  obtain ⟨a', dx', ws', ea, g1', g2', g3'⟩ := rep_ins R3 q1' hi3 h1
                  cases ea
                  cases e2
                  obtain ⟨R4, hl4⟩ := R3.put (u := .ins C dx' (putF f v3 ws')) (o := .ins c2 (putFD f d3 fs2)) g1' fun hl => ⟨C, dx', _, h1, upd_same, paired_mono (fun x y q => ⟨q.1, Rep.up (List.prefix_refl _) hl _ q.2⟩) (fld_put q3 g3')⟩
                  exact ⟨dx', ws', g2', by rw [← paired_len g3']; exact hlen, po2 p3 _ σ hp3 (hl3.trans hl4) R4 (L2.up hp3 (hl3.trans hl4))⟩
                · cases e2
              · cases e2
        · cases e1
      · cases e1
    · cases e1
  | _ => cases e1
end
/-! ### properties -/
structure Prp (P : Program) (w : World) (K : PySem.W.Frag) (mg : Str → Option Value) (base : Heap) (k : Nat) (c m : Str) (n : Nat) (mm : List D → Hd → Option (Rs D)) : Prop where
  ln : ∀ ds M o, mm ds M = some o → ds.length = n
  ex : ∃ C p f fd ps, mg c = some (.ref C) ∧ Cls K C ∧ PropOf K C m p f ∧ Binds K fd ps [] ∧ FnOk P w K mg base (L2.CX P w) k f fd ps (spD K mg n mm)
theorem Prp.mono {P : Program} {w : World} {K : PySem.W.Frag} {mg : Str → Option Value} {base : Heap} {j k n : Nat} {c m : Str} {mm : List D → Hd → Option (Rs D)} (h : Prp P w K mg base j c m n mm) (hk : j ≤ k) : Prp P w K mg base k c m n mm := by
  obtain ⟨C, p, f, fd, ps, h1, h2, h3, h4, h5⟩ := h.ex
  exact ⟨h.ln, C, p, f, fd, ps, h1, h2, h3, h4, h5.mono hk⟩
def ePrp (c : Str) (mm : List D → Hd → Option (Rs D)) (fa : EF) : EF := fun r M => bnd (fa r M) fun x M1 => match x with
  | .ref i => (match M1[i]? with
    | some (.ins c' fs) => if c' = c then (match mm [.ref i] M1 with
      | some (.ok d M2) => some (.ok d M2)
      | _ => none) else none
    | _ => none)
  | _ => none
theorem no_pass {P : Program} {w : World} {X : Cx} : Passes (L2.CX P w) X (fun _ _ _ => False) := by
  intro pins σ H s e s' I h
  obtain ⟨_, _, _, _, _, _, _, _, _, _, _, _, h⟩ := h
  exact h.elim
section
variable {X : Cx} {z : Zx} {W : WX} {a : Expr} {fa : EF} {c m : Str} {k n : Nat} {mm : List D → Hd → Option (Rs D)} {pos : Pos}
theorem de_prop (F : Prp X.prog X.w X.K X.mg X.base k c m n mm) (hr : Room (k + 1) X.A) (ha : DE X z W a fa) (hb : attributeBase a m X.env (eval a X.env) = eval a X.env := by rfl) : DE X z W (.Attribute a m pos) (ePrp c mm fa) := by
  obtain ⟨C, p, f, fd, ps, h1, h2, h3, h4, h5⟩ := F.ex
  refine (pe_prop (E := fun _ _ _ => False) ha h2 h3 h5 hr h4 .nil no_pass hb).imp ?_
  rintro σ H Q ⟨p, M, ρ, o, R, L, e, po⟩
  refine gE_bnd R L e po fun d M1 p1 H1 v R1 L1 hl1 hp1 q1 e1 po1 => ?_
  cases d with
  | ref i =>
    dsimp only at e1
    split at e1
    · rename_i c' fs hi
      split at e1
      · rename_i hcc
        subst hcc
        obtain ⟨a, dx, ws, rfl, _, g2, g3⟩ := rep_ins R1 q1 hi h1
        refine ⟨a, dx, ws, rfl, g2, ?_⟩
        split at e1
        · rename_i d M2 em
          cases e1
          exact ⟨p1, M1, [.ref i], _, R1, reps_cons q1 reps_nil, F.ln _ _ _ em, em, po1⟩
        · cases e1
      · cases e1
    · cases e1
  | _ => cases e1
end
/-! ### properties as the head sees them -/
structure PrD where
  c : Str
  m : Str
  d : He.DefD
def prA (K : PySem.W.Frag) (c m : Str) : Addr := He.ma K (He.ga K c) m
def prG (K : PySem.W.Frag) (c m : Str) : Addr := match PySem.W.recIn K (prA K c m) "property" with
  | some (.ref g :: _) => g
  | _ => 0
def fnWA (K : PySem.W.Frag) (a : Addr) : He.FnW := match K.lookup a with
  | some ⟨_, _, .func fd, _⟩ => some (fd.name, fd.qualname, fd.params, fd.body, fd.scope, fd.globals, fd.closure, fd.builtins)
  | _ => none
def PrD.w (K : PySem.W.Frag) (p : PrD) : He.FnW := fnWA K (prG K p.c p.m)
def PrD.ok (K : PySem.W.Frag) (p : PrD) : Bool :=
  (match PySem.W.findIn K (.ref (He.ga K p.c)) p.m with | some (some (.ref _)) => true | _ => false) &&
  ((match PySem.W.specialIn K (.ref (prA K p.c p.m)) "__get__" with | some (some (.builtin s)) => s == "property.__get__" | _ => false) &&
  ((match PySem.W.takesIn K (.ref (prA K p.c p.m)) with | some true => true | _ => false) &&
  ((match PySem.W.recIn K (prA K p.c p.m) "property" with | some (.ref _ :: _) => true | _ => false) &&
  (PySem.W.keepIn K (.ref (prG K p.c p.m)) &&
  (match K.lookup (prG K p.c p.m) with
  | some ⟨_, _, .func fd, _⟩ => PySem.W.codeIn K fd.code p.d.qual && He.dflB K fd.defaults []
  | _ => false)))))
theorem PrD.all {K : PySem.W.Frag} {p : PrD} (h : p.ok K = true) (e : p.w K = p.d.val) : PropOf K (He.ga K p.c) p.m (prA K p.c p.m) (prG K p.c p.m) ∧ ∃ fd, FunD K p.d.name p.d.qual p.d.params p.d.body p.d.scope [] [] (prG K p.c p.m) fd := by
  unfold PrD.ok at h
  simp only [Bool.and_eq_true] at h
  obtain ⟨h1, h2, h3, h4, h5, h6⟩ := h
  refine ⟨⟨?_, ?_, ?_, ?_⟩, ?_⟩
  · split at h1
    · rename_i a ea
      unfold prA He.ma
      rw [ea]
    · cases h1
  · split at h2
    · rename_i s es
      rw [beq_iff_eq] at h2
      subst h2
      exact es
    · cases h2
  · split at h3
    · rename_i es
      exact es
    · cases h3
  · split at h4
    · rename_i g r es
      refine ⟨r, ?_⟩
      unfold prG
      rw [es]
    · cases h4
  · unfold PrD.w fnWA at e
    split at h6
    · rename_i oc od fd osl hl
      rw [hl] at e
      obtain ⟨n1, n2, n3, n4, n5, n6, n7, n8, n9, n10, n11, n12, n13, n14, n15⟩ := fd
      have e := Option.some.inj e
      simp only [Prod.mk.injEq] at e
      obtain ⟨e1, e2, e3, e4, e5, e6, e7, e8⟩ := e
      subst e1 e2 e3 e4 e5 e6 e7 e8
      rw [Bool.and_eq_true] at h6
      exact ⟨_, ⟨⟨oc, od, n8, n9, n10, n11, n12, n13, n14, osl, rfl, hl, h6.1, He.dflB_ok h6.2, .inl rfl⟩, h5⟩⟩
    · cases h6
def hookP (n : Nat) (fa : List He.Fa) (fn : List He.DefD) (ex : PySem.W.Frag → Bool) (ps : List PrD) : PySem.W.Hook where
  α := (He.AlD × Bool) × List He.FnW
  obs := fun s => ((He.obsD fa fn (He.frG s.heap.get? (He.asD s.heap.get? n)), ex (He.frG s.heap.get? (He.asD s.heap.get? n))), ps.map (PrD.w (He.frG s.heap.get? (He.asD s.heap.get? n))))
  val := fun _ => ((He.valD fn, true), ps.map fun p => p.d.val)
  says := fun _ h => ∃ K : PySem.W.Frag, K.In h ∧ He.SaysD fa fn K ∧ (ex K = true ∧ ps.map (PrD.w K) = ps.map fun p => p.d.val)
  of := fun _ _ e => ⟨_, He.frG_in, congrArg Prod.fst (congrArg Prod.fst e), congrArg Prod.snd (congrArg Prod.fst e), congrArg Prod.snd e⟩
  keeps := fun _ _ _ ⟨K, hK, c⟩ k => ⟨K, PySem.W.Frag.In.keeps hK k, c⟩
def obP (n : Nat) (fa : List He.Fa) (fn : List He.DefD) (ex : PySem.W.Frag → Bool) (ps : List PrD) (g : Addr → Option Obj) : (He.AlD × Bool) × List He.FnW := ((He.obsD fa fn (He.frG g (He.asD g n)), ex (He.frG g (He.asD g n))), ps.map (PrD.w (He.frG g (He.asD g n))))
theorem obP_eq {n : Nat} {fa : List He.Fa} {fn : List He.DefD} {ex : PySem.W.Frag → Bool} {ps : List PrD} {g : Addr → Option Obj} {s : Shared} (h : ∀ a, g a = s.heap.get? a) : obP n fa fn ex ps g = (hookP n fa fn ex ps).obs s := by
  have e : g = s.heap.get? := funext h
  rw [e]
  rfl
def hookPR (n : Nat) (fa : List He.Fa) (fn : List He.DefD) (ts : List He.Tab) (ex : PySem.W.Frag → Bool) (ps : List PrD) : PySem.W.Hook where
  α := (He.AlT × Bool) × List He.FnW
  obs := fun s => ((He.obsT fa fn ts (He.frG s.heap.get? (He.asD s.heap.get? n)), ex (He.frG s.heap.get? (He.asD s.heap.get? n))), ps.map (PrD.w (He.frG s.heap.get? (He.asD s.heap.get? n))))
  val := fun w => ((He.valT fn ts w, true), ps.map fun p => p.d.val)
  says := fun w h => ∃ K : PySem.W.Frag, K.In h ∧ He.SaysT fa fn ts w K ∧ (ex K = true ∧ ps.map (PrD.w K) = ps.map fun p => p.d.val)
  of := fun _ _ e => ⟨_, He.frG_in, congrArg Prod.fst (congrArg Prod.fst e), congrArg Prod.snd (congrArg Prod.fst e), congrArg Prod.snd e⟩
  keeps := fun _ _ _ ⟨K, hK, c⟩ k => ⟨K, PySem.W.Frag.In.keeps hK k, c⟩
def obPR (n : Nat) (fa : List He.Fa) (fn : List He.DefD) (ts : List He.Tab) (ex : PySem.W.Frag → Bool) (ps : List PrD) (g : Addr → Option Obj) : (He.AlT × Bool) × List He.FnW := ((He.obsT fa fn ts (He.frG g (He.asD g n)), ex (He.frG g (He.asD g n))), ps.map (PrD.w (He.frG g (He.asD g n))))
theorem obPR_eq {n : Nat} {fa : List He.Fa} {fn : List He.DefD} {ts : List He.Tab} {ex : PySem.W.Frag → Bool} {ps : List PrD} {g : Addr → Option Obj} {s : Shared} (h : ∀ a, g a = s.heap.get? a) : obPR n fa fn ts ex ps g = (hookPR n fa fn ts ex ps).obs s := by
  have e : g = s.heap.get? := funext h
  rw [e]
  rfl
theorem pr_at {K : PySem.W.Frag} {ps : List PrD} (c : ps.map (PrD.w K) = ps.map fun p => p.d.val) (i : Nat) {p : PrD} (h : ps[i]? = some p := by rfl) : p.w K = p.d.val := by
  have e2 : (ps.map (PrD.w K))[i]? = (ps.map fun p => p.d.val)[i]? := by rw [c]
  rw [List.getElem?_map, List.getElem?_map, h] at e2
  exact Option.some.inj e2
end DI

end

section
set_option Elab.async false
set_option linter.all false
set_option maxRecDepth 100000
set_option maxHeartbeats 4000000
/-! DI24: t.index(i), a tuple of ints. -/
namespace DI
open PySem PySem.Spec PyProof.Rows L2
/-- a tuple, nothing hangs on it -/
def tyStT (K : PySem.W.Frag) (x : V) (H : Hp) : Prop := ∃ a vs, x = .ref a ∧ StT K H a vs
theorem ty_stT {X : Cx} : TyOk X "tuple" (tyStT X.K) := by
  intro pins σ H s x v J r ty
  obtain ⟨a, vs, rfl, h⟩ := ty
  cases r
  have key : ∃ o, s.heap.get? a = some o ∧ o.cls = .type "tuple" ∧ o.dict = none := by
    rcases h with ⟨o, h, c1, c2⟩ | ⟨o, its, n, h, c1, c2, _⟩
    · exact ⟨o, (J.hok a _ h).1, c1, c2⟩
    · exact ⟨o, J.kIn a o h, c1, c2⟩
  obtain ⟨o, e, c1, c2⟩ := key
  refine ⟨⟨o, e, c1⟩, fun b e2 => ?_⟩
  cases e2
  exact ⟨o, e, c2⟩
theorem mt_indexI {X : Cx} : MtR X "tuple.index" (fun x xs H Q => ∃ (a : Addr) (ns : List Int) (z : Int), x = .ref a ∧ xs = [.int z] ∧ SqT X.K H a (ns.map V.int) ∧ z ∈ ns ∧ Q (.int (ns.idxOf z : Nat)) H) := by
  intro pins s σ H x xs v us Q J rx rs h
  obtain ⟨a, ns, z, rfl, rfl, hq, hm, q⟩ := h
  cases rx
  obtain ⟨u, rfl, t, rfl⟩ := vals1 rs
  obtain ⟨us, rv, pl, _⟩ := J.tuple hq
  exact PySem.SeqAt.tuple_index_ints pl (intsAre_of rv) hm ⟨.int (ns.idxOf z : Nat), H, J.tok _, ⟨_, rfl⟩, q⟩
def indexG : G2 := fun d e M => match d, e with
  | .tup ds, .int z => (match ds.mapM intOf with
    | some ns => if z ∈ ns then some (.ok (.int (ns.idxOf z : Nat)) M) else none
    | none => none)
  | _, _ => none
/-- t.index(i) -/
def eIndex (fa fe : EF) : EF := fun r M => bnd (fa r M) fun x M1 => match x with
  | .tup ds => bnd (fe r M1) fun y M2 => indexG (.tup ds) y M2
  | _ => none
theorem de_index {X : Cx} {z : Zx} {W : WX} {a e : Expr} {fa fe : EF} {ap pos : Pos} (ha : DE X z W a fa) (hb : DE X z W e fe) (hbm : attributeBase a "index" X.env (eval a X.env) = eval a X.env := by rfl) (he : starEach [e] X.env = (false, eval e X.env) :: starEach [] X.env := by rfl)
    (hfew : ((backTo pos (starEach [e] X.env)).all (fun x => !x.1) && (backToKw pos (keywordEach [] X.env)).all (fun x => x.1.isSome) && decide ([e].length + ([] : List Keyword).length + (if ([] : List Keyword).isEmpty then 0 else 1) < 30)) = true := by rfl)
    (hln : (ap.endLine == pos.line) = true := by rfl) (hpl : (backTo pos (starEach [] X.env)).any (·.1) = false := by rfl) : DE X z W (.Call (.Attribute a "index" ap) [e] [] pos) (eIndex fa fe) := by
  refine (pe_mG ty_stT PySem.F.plainAttrs_tuple PySem.F.slot_tuple_index PySem.F.type_tuple_index mt_indexI ha (pa_cons hb pa_nil he) hbm hfew hln he hpl).imp ?_
  rintro σ H Q ⟨p, M, ρ, o, R, L, e, po⟩
  refine gE_bnd R L e po fun d M1 p1 H1 v R1 L1 hl1 hp1 q1 e1 po1 => ?_
  cases d with
  | tup ds =>
    dsimp only at e1
    have q1' := q1
    unfold Rep at q1
    obtain ⟨a, vs, rfl, s, r⟩ := q1
    refine ⟨⟨a, vs, rfl, s⟩, ?_⟩
    refine gE_bnd R1 L1 e1 po1 fun d2 M2 p2 H2 v2 R2 L2 hl2 hp2 q2 e2 po2 => ?_
    have q3 := Rep.up hp2 hl2 _ q1'
    cases d2 with
    | int x =>
      unfold indexG at e2
      dsimp only at e2
      split at e2
      · rename_i ns hn
        split at e2
        · rename_i hm
          cases e2
          unfold Rep at q2 q3
          subst q2
          obtain ⟨a2, vs2, ea, s2, r2⟩ := q3
          cases ea
          have := reps_ints r2 hn
          subst this
          exact ⟨a, ns, x, rfl, rfl, s2.sq, hm, po2.ok R2 rep_int⟩
        · cases e2
      · cases e2
    | _ => cases e2
  | _ => cases e1
/-! ### a module's tuple of ints -/
structure TupC (K : PySem.W.Frag) (mg : Str → Option Value) (x : Str) (is : List Int) : Prop where
  ex : ∃ a, mg x = some (.ref a) ∧ ∀ H, StT K H a (is.map V.int)
def intV : Value → Option Int
  | .int i _ => some i
  | _ => none
def tupB (K : PySem.W.Frag) (x : Str) (is : List Int) : Bool := match K.lookup (He.ga K x) with
  | some o => (match o.data with
    | .seq its _ => decide (o.cls = .type "tuple") && o.dict.isNone && decide (its.size ≤ 1000) && decide (its.toList.map intV = is.map some)
    | _ => false)
  | none => false
theorem vals_intV : ∀ {us : List Value} {is : List Int}, us.map intV = is.map some → Vals (is.map V.int) us
  | [], [], _ => .nil
  | [], _ :: _, h => nomatch h
  | _ :: _, [], h => nomatch h
  | u :: us, i :: is, h => by
    injection h with h1 h2
    refine .cons ?_ (vals_intV h2)
    cases u with
    | int j t =>
      cases h1
      exact ⟨t, rfl⟩
    | _ => cases h1
theorem tupC_of {K : PySem.W.Frag} {mg : Str → Option Value} {x : Str} {is : List Int} (h : mg x = some (.ref (He.ga K x))) (hb : tupB K x is = true) : TupC K mg x is := by
  refine ⟨_, h, fun H => .inr ?_⟩
  unfold tupB at hb
  split at hb
  · rename_i o ho
    split at hb
    · rename_i its n hd
      simp only [Bool.and_eq_true, decide_eq_true_eq] at hb
      obtain ⟨⟨⟨h1, h2⟩, h3⟩, h4⟩ := hb
      refine ⟨o, its, n, ho, h1, Option.isNone_iff_eq_none.mp h2, hd, ?_, vals_intV h4⟩
      rw [sizeLine_eq]
      omega
    · cases hb
  · cases hb
theorem reps_is {K : PySem.W.Frag} {p : List Addr} {H : Hp} : ∀ (is : List Int), Reps K p H (is.map D.int) (is.map V.int)
  | [] => reps_nil
  | i :: is => reps_cons rep_int (reps_is is)
def tupI (is : List Int) : D := .tup (is.map D.int)
theorem de_tupC {X : Cx} {z : Zx} {W : WX} {x : Str} {is : List Int} {pos : Pos} (h : TupC X.K X.mg x is) (hg : Gl X x := by rfl) (hd : (x == ("__debug__" : Str)) = false := by decide) : DE X z W (.Name x pos) (eC (tupI is)) := by
  obtain ⟨a, h1, h2⟩ := h.ex
  exact de_glob (v := .ref a) hg h1 rfl (fun _ H => rep_tup (h2 H) (reps_is is)) hd
end DI

end

section
set_option Elab.async false
set_option linter.all false
set_option maxRecDepth 100000
set_option maxHeartbeats 4000000
/-! DI25: dicts whose keys are tuples of ints ({}, setdefault); comprehensions with two fors; {2: 6, ..}[x]; x is True; list.insert. -/
namespace DI
open PySem PySem.Spec PyProof.Rows L2
/-! ### dicts -/
def KeysX (K : PySem.W.Frag) (H : Hp) (xs : List DX) : Prop := ∀ x ∈ xs, StT K H x.2.1 (x.1.map V.int)
theorem tupleKey_of {X : Cx} {pins : List (Addr × Obj)} {σ : L2.St} {H : Hp} {s : Shared} {a : Addr} {ks : List Int} (J : Inv X pins σ H s) (h : StT X.K H a (ks.map V.int)) : (tupleKind (intKind X.prog X.w)).is s.heap ks a := by
  obtain ⟨us, rv, ⟨o, e, c, n, d⟩, _⟩ := J.tuple h.sq
  refine ⟨o, us.toArray, n, e, c, d, ?_⟩
  rw [List.toList_toArray]
  clear d e h
  rename_i hz
  clear hz
  induction ks generalizing us with
  | nil =>
    cases rv
    exact .nil
  | cons k ks ih =>
    cases rv with
    | cons h t =>
      obtain ⟨t', rfl⟩ := h
      refine .cons ?_ (ih _ t)
      show Value.isInt k (.int k t') = true
      simp [Value.isInt]
theorem dctX_of {X : Cx} {pins : List (Addr × Obj)} {σ : L2.St} {H : Hp} {s : Shared} {a : Addr} {xs : List DX} (J : Inv X pins σ H s) (e : H a = some (dctO a xs)) (hk : KeysX X.K H xs) : s.heap.DictOfH (tupleKind (intKind X.prog X.w)) a xs := by
  obtain ⟨⟨o, es, ep, h1, h2, h3, h4, h5⟩, _⟩ := (show ObjOk X.prog X.w H s.heap a (dctO a xs) from J.hok a _ e)
  exact ⟨o, es, ep, h1, h2, h3, h4, fun x hx => tupleKey_of J (hk x hx), h5⟩
theorem dctX_new {X : Cx} {H : Hp} {h : Heap} {a : Addr} {xs : List DX} (m : h.DictOfH (tupleKind (intKind X.prog X.w)) a xs) : ObjOk X.prog X.w H h a (dctO a xs) := by
  obtain ⟨o, es, ep, h1, h2, h3, h4, _, h5⟩ := m
  exact ⟨⟨o, es, ep, h1, h2, h3, h4, h5⟩, ⟨o, h1⟩, fun g1 g2 ⟨o, es, ep, q1, q2⟩ k => ⟨o, es, ep, k _ q1, q2⟩⟩
/-- {} -/
def tDNewX : TE := fun _ H Q => ∀ p, H p = none → (p == sysModules) = false → Q (.ref p) (upd H p (dctO p []))
theorem pe_dnewX {X : Cx} {pos : Pos} : PE X (.Dict [] [] pos) tDNewX := ⟨fun pins s σ H Q I h =>
  wpAny_Dict_empty ⟨.ref s.heap.objs.size, _, I.laid (a := s.heap.objs.size) (o := dctO s.heap.objs.size []) (t' := s.toks) (fun _ _ q => Heap.get?_push_of_some _ q) (Nat.le_refl _)
    ⟨⟨_, #[], 0, Heap.get?_push_size _ rfl, ⟨rfl, rfl, rfl⟩, rfl, rfl, List.nodup_nil⟩, ⟨_, Heap.get?_push_size _ rfl⟩, fun g1 g2 ⟨o, es, ep, q1, q2⟩ k => ⟨o, es, ep, k _ q1, q2⟩⟩, rfl,
    h _ (I.hok.fresh (Nat.le_refl _)) (beq_eq_false_iff_ne.mpr (Ne.symm (Nat.ne_of_lt I.big)))⟩⟩
def eNewX : EF := fun _ M => some (.ok (.ref M.length) (M ++ [.dct []]))
theorem de_dnewX {X : Cx} {z : Zx} {W : WX} {pos : Pos} : DE X z W (.Dict [] [] pos) eNewX := by
  refine pe_dnewX.imp ?_
  rintro σ H Q ⟨p, M, ρ, o, R, L, e, po⟩
  intro a ha hs
  cases e
  have hl : Le H (upd H a (dctO a [])) := Le.new ha
  have R1 : Rl X.K X.mg (p ++ [a]) (M ++ [.dct []]) (upd H a (dctO a [])) := R.new ha ⟨[], upd_same, hs, .nil⟩
  refine po (p ++ [a]) _ (.ref a) (List.prefix_append p [a]) hl R1 (rep_ref ?_)
  rw [← R.len, List.getElem?_append_right (Nat.le_refl _), Nat.sub_self]
  rfl
def tyDX (x : V) (H : Hp) : Prop := ∃ a xs, x = .ref a ∧ H a = some (dctO a xs)
theorem ty_dX {X : Cx} : TyOk X "dict" tyDX := by
  intro pins σ H s x v J r ty
  obtain ⟨a, xs, rfl, h⟩ := ty
  cases r
  obtain ⟨⟨o, es, ep, h1, h2, h3, h4, h5⟩, _⟩ := (show ObjOk X.prog X.w H s.heap a (dctO a xs) from J.hok a _ h)
  refine ⟨⟨o, h1, h2.1⟩, fun b e => ?_⟩
  cases e
  exact ⟨o, h1, h2.2.1⟩
theorem mutX {a : Addr} {xs : List DX} : Mut (some (dctO a xs)) := trivial
theorem mt_setdX {X : Cx} (hu : X.A.units + 1 < cLine) : MtR X "dict.setdefault" (fun x ys H Q => ∃ (a : Addr) (xs : List DX) (b : Addr) (ks : List Int) (z : V), x = .ref a ∧ ys = [.ref b, z] ∧ H a = some (dctO a xs) ∧ (a == sysModules) = false ∧ KeysX X.K H xs ∧ StT X.K H b (ks.map V.int) ∧ xs.length ≤ sizeLine ∧
    (∀ p, atKey xs ks = some p → ∃ v, RelV v p.2 ∧ Q v H) ∧ (atKey xs ks = none → ∀ u, RelV z u → Q z (upd H a (dctO a (xs ++ [(ks, b, u)]))))) := by
  intro pins s σ H x ys v us Q J rx rs h
  obtain ⟨a, xs, b, ks, z, rfl, rfl, e, hs, hk, hb, hz, q1, q2⟩ := h
  cases rx
  obtain ⟨u1, u2, rfl, r1, r2⟩ := rs.two
  cases r1
  refine call_setdefault_heap (knd := tupleKind (intKind X.prog X.w)) (k := ks) (hsz := hz) (show X.A.in1.units < cLine by exact hu) (tupleKey_of J hb) hs (dctX_of J e hk) (fun p hp => ?_) fun hn h' hm' hsb => ?_
  · obtain ⟨v, rv, q⟩ := q1 p hp
    exact ⟨v, H, J.tok _, rv, q⟩
  · rw [storedH_new hn] at hm'
    have he : ∃ q, h'.get? a = some q := let ⟨q, _, _, hq, _⟩ := hm'; ⟨q, hq⟩
    refine ⟨z, _, J.write (x := a) (e := a) (by rw [e]; exact mutX) (.inl rfl) (fun c q hc w => (hsb.2 c hc).trans w) he (dctX_new (X := X) hm'), r2, q2 hn _ r2⟩
def setdX : D → D → D → Hd → Option (Rs D) := fun o y z M => match o, y with
  | .ref i, .tup ds => (match M[i]?, ds.mapM intOf with
    | some (.dct kvs), some ks => if kvs.length < 16777216 then (match kvs.lookup ks with
      | some d => some (.ok d M)
      | none => some (.ok z (M.set i (.dct (kvs ++ [(ks, z)]))))) else none
    | _, _ => none)
  | _, _ => none
def eSetd (fo : EF) (fa : AF) : EF := fun r M => bnd (fo r M) fun x M1 => match x with
  | .ref i => (match M1[i]? with
    | some (.dct _) => bnd (fa r M1) fun as M2 => (match as with
      | [y, z] => setdX (.ref i) y z M2
      | _ => none)
    | _ => none)
  | _ => none
theorem dct_look {K : PySem.W.Frag} {p : List Addr} {H : Hp} {ks : List Int} : ∀ {kvs : List (List Int × D)} {xs : List DX}, Paired (fun (x : List Int × D) (y : DX) => y.1 = x.1 ∧ StT K H y.2.1 (x.1.map V.int) ∧ ∃ v, RelV v y.2.2 ∧ Rep K p H x.2 v) kvs xs →
    (∀ d, kvs.lookup ks = some d → ∃ q v, atKey xs ks = some q ∧ RelV v q.2 ∧ Rep K p H d v) ∧ (kvs.lookup ks = none → atKey xs ks = none)
  | _, _, .nil => ⟨(fun d h => nomatch h), (fun _ => rfl)⟩
  | (k, e) :: kvs, y :: xs, .cons h t => by
    obtain ⟨h1, h2, v, h3, h4⟩ := h
    obtain ⟨t1, t2⟩ := dct_look (ks := ks) t
    rw [List.lookup_cons]
    by_cases hf : ks = k
    · subst hf
      rw [beq_self_eq_true]
      have ea : atKey (y :: xs) ks = some y.2 := by
        unfold atKey
        rw [List.find?_cons, decide_eq_true h1]
        rfl
      refine ⟨(fun d hd => ?_), (fun hd => nomatch hd)⟩
      cases hd
      exact ⟨_, v, ea, h3, h4⟩
    · have hb : (ks == k) = false := by rw [beq_eq_false_iff_ne]; exact hf
      have ea : atKey (y :: xs) ks = atKey xs ks := by
        unfold atKey
        have : decide (y.1 = ks) = false := decide_eq_false (fun e => hf (by rw [← e, h1]))
        rw [List.find?_cons, this]
      rw [hb, ea]
      exact ⟨t1, t2⟩
theorem dct_keys {K : PySem.W.Frag} {p : List Addr} {H : Hp} : ∀ {kvs : List (List Int × D)} {xs : List DX}, Paired (fun (x : List Int × D) (y : DX) => y.1 = x.1 ∧ StT K H y.2.1 (x.1.map V.int) ∧ ∃ v, RelV v y.2.2 ∧ Rep K p H x.2 v) kvs xs → KeysX K H xs
  | _, _, .nil => fun x h => nomatch h
  | _, _, .cons h t => fun x hx => by
    rcases List.mem_cons.mp hx with rfl | hx
    · rw [h.1]
      exact h.2.1
    · exact dct_keys t x hx
theorem paired_lenX {α β : Type} {F : α → β → Prop} : ∀ {l : List α} {m : List β}, Paired F l m → l.length = m.length
  | _, _, .nil => rfl
  | _, _, .cons _ t => by rw [List.length_cons, List.length_cons, paired_lenX t]
theorem paired_appX {α β : Type} {F : α → β → Prop} {x : α} {y : β} (h : F x y) : ∀ {l : List α} {m : List β}, Paired F l m → Paired F (l ++ [x]) (m ++ [y])
  | _, _, .nil => .cons h .nil
  | _, _, .cons q t => .cons q (paired_appX h t)
theorem rep_dct {K : PySem.W.Frag} {mg : Str → Option Value} {p : List Addr} {M : Hd} {H : Hp} {i : Nat} {v : V} {kvs : List (List Int × D)} (R : Rl K mg p M H) (q : Rep K p H (.ref i) v) (h : M[i]? = some (.dct kvs)) :
    ∃ a xs, v = .ref a ∧ p[i]? = some a ∧ H a = some (dctO a xs) ∧ (a == sysModules) = false ∧ Paired (fun (x : List Int × D) (y : DX) => y.1 = x.1 ∧ StT K H y.2.1 (x.1.map V.int) ∧ ∃ v, RelV v y.2.2 ∧ Rep K p H x.2 v) kvs xs := by
  unfold Rep at q
  obtain ⟨a, ha, rfl⟩ := q
  obtain ⟨b, hb, xs, e, n, r⟩ := R.ob _ _ h
  rw [ha] at hb
  cases hb
  exact ⟨a, xs, rfl, ha, e, n, r⟩
theorem de_setd {X : Cx} {z : Zx} {W : WX} {a e : Expr} {es : List Expr} {fa : EF} {g : AF} {ap pos : Pos} (hu : X.A.units + 1 < cLine) (ha : DE X z W a fa) (hb : DA X z W (e :: es) g) (hbm : attributeBase a "setdefault" X.env (eval a X.env) = eval a X.env := by rfl) (he : starEach (e :: es) X.env = (false, eval e X.env) :: starEach es X.env := by rfl)
    (hfew : ((backTo pos (starEach (e :: es) X.env)).all (fun x => !x.1) && (backToKw pos (keywordEach [] X.env)).all (fun x => x.1.isSome) && decide ((e :: es).length + ([] : List Keyword).length + (if ([] : List Keyword).isEmpty then 0 else 1) < 30)) = true := by rfl)
    (hln : (ap.endLine == pos.line) = true := by rfl) (hpl : (backTo pos (starEach es X.env)).any (·.1) = false := by rfl) : DE X z W (.Call (.Attribute a "setdefault" ap) (e :: es) [] pos) (eSetd fa g) := by
  refine (pe_mG ty_dX PySem.F.plainAttrs_dict PySem.F.slot_dict_setdefault PySem.F.type_dict_setdefault (mt_setdX hu) ha hb hbm hfew hln he hpl).imp ?_
  rintro σ H Q ⟨p, M, ρ, o, R, L, e, po⟩
  refine gE_bnd R L e po fun d M1 p1 H1 v R1 L1 hl1 hp1 q1 e1 po1 => ?_
  split at e1
  · rename_i i
    split at e1
    · rename_i kvs0 hi
      obtain ⟨b0, xs0, rfl, hb0, ex0, _⟩ := rep_dct R1 q1 hi
      refine ⟨⟨b0, xs0, rfl, ex0⟩, ?_⟩
      refine gE_bnd R1 L1 e1 po1 fun as M2 p2 H2 ws R2 L2 hl2 hp2 q2 e2 po2 => ?_
      split at e2
      · rename_i y w
        cases y with
        | tup ds =>
          unfold setdX at e2
          dsimp only at e2
          split at e2
          · rename_i kvs ks hM hks
            have q3 := Rep.up hp2 hl2 _ q1
            obtain ⟨b, xs, eb, hb, ex, hs, r⟩ := rep_dct R2 q3 hM
            cases eb
            unfold Reps at q2
            obtain ⟨v1, ws1, rfl, qk, q2⟩ := q2
            unfold Reps at q2
            obtain ⟨v2, ws2, rfl, qz, q2⟩ := q2
            unfold Reps at q2
            subst q2
            unfold Rep at qk
            obtain ⟨c, vs, rfl, hst, rr⟩ := qk
            have := reps_ints rr hks
            subst this
            obtain ⟨t1, t2⟩ := dct_look (ks := ks) r
            split at e2
            · rename_i hlt
              have hle : xs.length ≤ sizeLine := by
                rw [← paired_lenX r]
                exact Nat.le_of_lt (line_lt hlt)
              cases hl : kvs.lookup ks with
              | some d =>
                rw [hl] at e2
                cases e2
                obtain ⟨q, v, a1, a2, a3⟩ := t1 d hl
                refine ⟨b0, xs, c, ks, v2, rfl, rfl, ex, hs, dct_keys r, hst, hle, fun p' hp' => ?_, fun hn => ?_⟩
                · rw [a1] at hp'
                  cases hp'
                  exact ⟨v, a2, po2.ok R2 a3⟩
                · rw [a1] at hn
                  cases hn
              | none =>
                rw [hl] at e2
                cases e2
                refine ⟨b0, xs, c, ks, v2, rfl, rfl, ex, hs, dct_keys r, hst, hle, fun p' hp' => ?_, fun _ u hu => ?_⟩
                · rw [t2 hl] at hp'
                  cases hp'
                · obtain ⟨R3, hl3⟩ := R2.put (u := dctO b0 (xs ++ [(ks, c, u)])) (o := .dct (kvs ++ [(ks, w)])) hb fun hl => ⟨_, upd_same, hs, paired_appX ⟨rfl, hl.stT hst, v2, hu, Rep.up (List.prefix_refl _) hl _ qz⟩ (paired_mono (fun x y q => ⟨q.1, hl.stT q.2.1, let ⟨v, v1, v2⟩ := q.2.2; ⟨v, v1, Rep.up (List.prefix_refl _) hl _ v2⟩⟩) r)⟩
                  exact po2 p2 _ v2 (List.prefix_refl _) hl3 R3 (Rep.up (List.prefix_refl _) hl3 _ qz)
            · cases e2
          · cases e2
        | _ => cases e2
      · cases e2
    · cases e1
  · cases e1
/-! ### two fors -/
open Classical in
noncomputable def lcL2 (gs : Gd) (n : Nat) (t : Tg) (c : TF) (it1 : IF) (t1 : Tg) (c1 : TF) (f : EF) (own1 : List Nat) (r : Ev) : List D → Hd → Option Hd
  | [], M => if Still gs M then some M else none
  | d :: ds, M => if Still gs M then (match t.put d r with
    | none => none
    | some r1 => match c r1 M with
      | some (.ok true M1) => (match it1 r1 M1 with
        | some (.ok p M2) => (match lcL p.2 n t1 c1 f (wip r1 own1) p.1 M2 with
          | some M3 => lcL2 gs n t c it1 t1 c1 f own1 r ds M3
          | none => none)
        | _ => none)
      | some (.ok false M1) => lcL2 gs n t c it1 t1 c1 f own1 r ds M1
      | _ => none) else none
noncomputable def eLc2 (it : IF) (t : Tg) (c : TF) (it1 : IF) (t1 : Tg) (c1 : TF) (f : EF) (own own1 : List Nat) : EF := fun r M => bnd (it r M) fun p M1 => match lcL2 p.2 M1.length t c it1 t1 c1 f own1 (wip r own) p.1 (M1 ++ [.lst []]) with
  | some M2 => some (.ok (.ref M1.length) M2)
  | none => none
theorem drop_atX {α : Type} {ds : List α} {i : Nat} {d : α} (h : ds[i]? = some d) : ds.drop i = d :: ds.drop (i + 1) := by
  have hlt := (List.getElem?_eq_some_iff.mp h).1
  rw [List.drop_eq_getElem_cons hlt]
  congr 1
  exact (List.getElem?_eq_some_iff.mp h).2
theorem lc2_of {W : WX} {t t1 : TF} {f : EF} {k : Kx} (hz : k.z = none) {it it1 : IF} {tt tt1 : Tg} {own own1 : List Nat} (hown : ∀ i ∈ tt.sl, i ∈ own) (hown1 : ∀ i ∈ tt1.sl, i ∈ own1) {σ : L2.St} {H : Hp} {Q : VK} (q : gE k W (rD k) (eLc2 it tt t it1 tt1 t1 f own own1) σ H Q) :
    tLc2 (gE k W (ItOk k) it) (gG k tt) (gE k W0 rB t) (gE k W0 (ItOk k) it1) (gG k tt1) (gE k W0 rB t1) (gE k W0 (rD k) f) own own1 σ H Q := by
  obtain ⟨p, M, ρ, o, R, L, e, po⟩ := q
  refine gE_bnd R L e po fun x M1 p1 H1 J R1 L1 hl1 hp1 q1 e1 po1 => ?_
  obtain ⟨ds, gs⟩ := x
  intro Dl hD
  split at e1
  · rename_i M2 hM2
    cases e1
    obtain ⟨kK, kmg, kz⟩ := k
    cases hz
    have R2 : Rl kK kmg (p1 ++ [Dl]) (M1 ++ [.lst []]) (upd H1 Dl (.lst [])) := R1.new hD ⟨[], upd_same, reps_nil⟩
    have hD1 : (p1 ++ [Dl])[M1.length]? = some Dl := by rw [List.getElem?_append_right (by rw [R1.len]; omega), R1.len]; simp
    refine ⟨fun i m H' => m = ds.length - i ∧ i ≤ ds.length ∧ ∃ p' M', (p1 ++ [Dl]) <+: p' ∧ Le (upd H1 Dl (.lst [])) H' ∧ Rl kK kmg p' M' H' ∧ lcL2 gs M1.length tt t it1 tt1 t1 f own1 (DI.wip ρ own) (ds.drop i) M' = some M2,
      ⟨ds.length, by simp, Nat.zero_le _, _, _, List.prefix_refl _, Le.refl _, R2, hM2⟩, ?_⟩
    rintro i m H' ⟨rfl, hi, p', M', hp', hl', R', e'⟩
    have hle : Le H1 H' := (Le.new hD).trans hl'
    have hpr : p1 <+: p' := (List.prefix_append p1 [Dl]).trans hp'
    have L' : Sl kK none p' H' (DI.wip ρ own) (wipe σ own) := Sl.wip (L1.up hpr hle) own
    have hat : p'[M1.length]? = some Dl := by
      obtain ⟨t, rfl⟩ := hp'
      rw [List.getElem?_append_left (List.getElem?_eq_some_iff.mp hD1).1]
      exact hD1
    by_cases hlt : i < ds.length
    · obtain ⟨d, hd⟩ : ∃ d, ds[i]? = some d := ⟨ds[i], List.getElem?_eq_getElem hlt⟩
      rw [drop_atX hd] at e'
      unfold lcL2 at e'
      split at e'
      · rename_i hS
        obtain ⟨k1, k2⟩ := q1 i p' M' H' hpr hle R' hS
        obtain ⟨go, yy⟩ := k1 d hd
        refine .inr ⟨go, fun H2 => ∃ p' M', (p1 ++ [Dl]) <+: p' ∧ Le (upd H1 Dl (.lst [])) H2 ∧ Rl kK kmg p' M' H2 ∧ lcL2 gs M1.length tt t it1 tt1 t1 f own1 (DI.wip ρ own) (ds.drop (i + 1)) M' = some M2,
          fun H2 h2 => ⟨ds.length - (i + 1), by omega, rfl, hlt, h2⟩, fun v H2 y => ?_⟩
        obtain ⟨hl2, R2, q2⟩ := yy v H2 y
        split at e'
        · cases e'
        · rename_i r1 hr1
          refine ⟨p', M', DI.wip ρ own, d, r1, R2, L'.up (List.prefix_refl _) hl2, q2, hr1, fun σ3 L3 hw => ?_⟩
          refine ⟨by rw [hw own hown, wipe_wipe], ?_⟩
          cases et : t r1 M' with
          | none => rw [et] at e'; exact nomatch e'
          | some x =>
            rw [et] at e'
            cases x with
            | er c M3 => exact nomatch e'
            | ok bb M3 =>
              refine ⟨p', M', r1, _, R2, L3, et, fun p3 H3 v3 hp3 hl3 R3 e3 => ?_⟩
              cases e3
              cases bb with
              | false => exact ⟨p3, M3, hp'.trans hp3, (hl'.trans hl2).trans hl3, R3, e'⟩
              | true =>
                rw [if_pos rfl]
                dsimp only at e'
                have L4 := L3.up hp3 hl3
                cases ei : it1 r1 M3 with
                | none => rw [ei] at e'; exact nomatch e'
                | some xi =>
                  rw [ei] at e'
                  cases xi with
                  | er c M4 => exact nomatch e'
                  | ok pp M4 =>
                    obtain ⟨ds2, gs2⟩ := pp
                    dsimp only at e'
                    split at e'
                    rotate_left
                    · cases e'
                    rename_i M5 hM5
                    refine ⟨p3, M3, r1, _, R3, L4, ei, fun p4 H4 J1 hp4 hl4 R4 q4 => ?_⟩
                    have L5 := L4.up hp4 hl4
                    have hb4 : (p1 ++ [Dl]) <+: p4 := (hp'.trans hp3).trans hp4
                    have hq4 : Le (upd H1 Dl (.lst [])) H4 := ((hl'.trans hl2).trans hl3).trans hl4
                    have hat4 : p4[M1.length]? = some Dl := by
                      obtain ⟨t, rfl⟩ := hp3.trans hp4
                      rw [List.getElem?_append_left (List.getElem?_eq_some_iff.mp hat).1]
                      exact hat
                    refine ⟨fun j m H' => m = ds2.length - j ∧ j ≤ ds2.length ∧ ∃ p' M', p4 <+: p' ∧ Le H4 H' ∧ Rl kK kmg p' M' H' ∧ lcL gs2 M1.length tt1 t1 f (DI.wip r1 own1) (ds2.drop j) M' = some M5,
                      ⟨ds2.length, by simp, Nat.zero_le _, _, _, List.prefix_refl _, Le.refl _, R4, hM5⟩, ?_⟩
                    rintro j m H5 ⟨rfl, hj, p5, M6, hp5, hl5, R5, e5⟩
                    have L6 : Sl kK none p5 H5 (DI.wip r1 own1) (wipe σ3 own1) := Sl.wip (L5.up hp5 hl5) own1
                    have hat5 : p5[M1.length]? = some Dl := by
                      obtain ⟨t, rfl⟩ := hp5
                      rw [List.getElem?_append_left (List.getElem?_eq_some_iff.mp hat4).1]
                      exact hat4
                    by_cases hlt2 : j < ds2.length
                    · obtain ⟨d2, hd2⟩ : ∃ d, ds2[j]? = some d := ⟨ds2[j], List.getElem?_eq_getElem hlt2⟩
                      rw [drop_atX hd2] at e5
                      unfold lcL at e5
                      split at e5
                      · rename_i hS2
                        obtain ⟨k3, k4⟩ := q4 j p5 M6 H5 hp5 hl5 R5 hS2
                        obtain ⟨go2, yy2⟩ := k3 d2 hd2
                        refine .inr ⟨go2, fun H2 => ∃ p' M', p4 <+: p' ∧ Le H4 H2 ∧ Rl kK kmg p' M' H2 ∧ lcL gs2 M1.length tt1 t1 f (DI.wip r1 own1) (ds2.drop (j + 1)) M' = some M5,
                          fun H2 h2 => ⟨ds2.length - (j + 1), by omega, rfl, hlt2, h2⟩, fun v5 H6 y5 => ?_⟩
                        obtain ⟨hl6, R6, q6⟩ := yy2 v5 H6 y5
                        split at e5
                        · cases e5
                        · rename_i r2 hr2
                          refine ⟨p5, M6, DI.wip r1 own1, d2, r2, R6, L6.up (List.prefix_refl _) hl6, q6, hr2, fun σ4 L7 hw2 => ?_⟩
                          refine ⟨by rw [hw2 own1 hown1, wipe_wipe], ?_⟩
                          cases et2 : t1 r2 M6 with
                          | none => rw [et2] at e5; exact nomatch e5
                          | some x =>
                            rw [et2] at e5
                            cases x with
                            | er c M7 => exact nomatch e5
                            | ok bb M7 =>
                              refine ⟨p5, M6, r2, _, R6, L7, et2, fun p7 H7 v7 hp7 hl7 R7 e7 => ?_⟩
                              cases e7
                              cases bb with
                              | false => exact ⟨p7, M7, hp5.trans hp7, (hl5.trans hl6).trans hl7, R7, e5⟩
                              | true =>
                                rw [if_pos rfl]
                                dsimp only at e5
                                cases ef : f r2 M7 with
                                | none => rw [ef] at e5; exact nomatch e5
                                | some x4 =>
                                  rw [ef] at e5
                                  cases x4 with
                                  | er c M8 => exact nomatch e5
                                  | ok d4 M8 =>
                                    refine ⟨p7, M7, r2, _, R7, L7.up hp7 hl7, ef, fun p8 H8 v8 hp8 hl8 R8 q8 => ?_⟩
                                    dsimp only at e5
                                    split at e5
                                    · rename_i acc hacc
                                      split at e5
                                      · rename_i hlen
                                        have hat8 : p8[M1.length]? = some Dl := by
                                          obtain ⟨t, rfl⟩ := hp7.trans hp8
                                          rw [List.getElem?_append_left (List.getElem?_eq_some_iff.mp hat5).1]
                                          exact hat5
                                        obtain ⟨b, hb, vs, s, r⟩ := R8.ob _ _ hacc
                                        rw [hat8] at hb
                                        cases hb
                                        obtain ⟨R9, hl9⟩ := R8.put (u := .lst (vs ++ [v8])) (o := .lst (acc ++ [d4])) hat8 fun hl => ⟨_, upd_same, Reps.up (List.prefix_refl _) hl _ (reps_app r (reps_cons q8 reps_nil))⟩
                                        exact ⟨vs, s, by rw [← reps_len r]; exact line_lt hlen, p8, _, hp5.trans (hp7.trans hp8), (((hl5.trans hl6).trans hl7).trans hl8).trans hl9, R9, e5⟩
                                      · cases e5
                                    · cases e5
                      · cases e5
                    · have hj' : j = ds2.length := by omega
                      subst hj'
                      rw [List.drop_length] at e5
                      unfold lcL at e5
                      split at e5
                      · rename_i hS2
                        have stop := (q4 _ p5 M6 H5 hp5 hl5 R5 hS2).2 rfl
                        cases e5
                        exact .inl ⟨stop, p5, _, hb4.trans hp5, hq4.trans hl5, R5, e'⟩
                      · cases e5
      · cases e'
    · have hi' : i = ds.length := by omega
      subst hi'
      rw [List.drop_length] at e'
      unfold lcL2 at e'
      split at e'
      · rename_i hS
        have stop := (q1 _ p' M' H' hpr hle R' hS).2 rfl
        cases e'
        refine .inl ⟨stop, ?_⟩
        exact po1 p' H' _ hpr hle R' (rep_ref hat)
      · cases e'
  · cases e1
section
variable {X : Cx} {W : WX} {tg elt iter tg1 iter1 : Expr} {f : EF} {t t1 : TF} {pos : Pos} {ifs ifs1 : List Expr}
theorem de_lc2 {scope : Scope} {own : List (Str × Nat)} {own1 : List Nat} {it it1 : IF} {tt tt1 : Tg} (hc : X.calm = true) (hN : X.N.Nodup) (hi : DI_ X none W tg iter it) (ok : BlkOk X.N X.env.scope scope own) (hown : ∀ i ∈ tt.sl, i ∈ own.map (·.2)) (hv : ∀ i ∈ own1, i ∈ own.map (·.2)) (hown1 : ∀ i ∈ tt1.sl, i ∈ own1)
    (hg : ∀ (s : Shared) (H : Hp) (C : Addr) (cl : List (Str × Addr)) (fp : List Addr), DG (X.blk s H scope (compEnvC scope cl C X.env) fp) none tg tt)
    (ht : ∀ (s : Shared) (H : Hp) (C : Addr) (cl : List (Str × Addr)) (fp : List Addr), DTs (X.blk s H scope (compEnvC scope cl C X.env) fp) none W0 ifs t)
    (hi1 : ∀ (s : Shared) (H : Hp) (C : Addr) (cl : List (Str × Addr)) (fp : List Addr), DI_ (X.blk s H scope (compEnvC scope cl C X.env) fp) none W0 tg1 iter1 it1)
    (hg1 : ∀ (s : Shared) (H : Hp) (C : Addr) (cl : List (Str × Addr)) (fp : List Addr), DG (X.blk s H scope (compEnvC scope cl C X.env) fp) none tg1 tt1)
    (ht1 : ∀ (s : Shared) (H : Hp) (C : Addr) (cl : List (Str × Addr)) (fp : List Addr), DTs (X.blk s H scope (compEnvC scope cl C X.env) fp) none W0 ifs1 t1)
    (he : ∀ (s : Shared) (H : Hp) (C : Addr) (cl : List (Str × Addr)) (fp : List Addr), DE (X.blk s H scope (compEnvC scope cl C X.env) fp) none W0 elt f) (hs : ∀ x, foldedSetIterable iter X.env x = pure x := by intro _; rfl) (hs1 : ∀ env x, foldedSetIterable iter1 env x = pure x := by intro _ _; rfl) :
    DE X none W (.ListComp elt [⟨tg, iter, ifs, 0⟩, ⟨tg1, iter1, ifs1, 0⟩] scope pos) (eLc2 it tt t it1 tt1 t1 f (own.map (·.2)) own1) :=
  (pe_lc2 (g := gG (Cx.k X none) tt) (tt := gE (Cx.k X none) W0 rB t) (wi1 := gE (Cx.k X none) W0 (ItOk (Cx.k X none)) it1) (g1 := gG (Cx.k X none) tt1) (tt1 := gE (Cx.k X none) W0 rB t1) (te := gE (Cx.k X none) W0 (rD (Cx.k X none)) f) hc hN hi ok hv hg ht hi1 hg1 ht1 he hs hs1).imp fun _ _ _ q => lc2_of rfl hown hown1 q
/-- y = [.. for .. for ..] on one line, y a local -/
theorem ds_setLc2 {i : Nat} {y : Str} {py spos : Pos} {scope : Scope} {own : List (Str × Nat)} {own1 : List Nat} {it it1 : IF} {tt tt1 : Tg} (hc : X.calm = true) (hN : X.N.Nodup) (hy : X.N[i]? = some y) (hyl : X.env.scope.names.lookup y = some .local)
    (hsw : swapsWith (.ListComp elt [⟨tg, iter, ifs, 0⟩, ⟨tg1, iter1, ifs1, 0⟩] scope pos) (some (.Name y py)) spos.line X.env = pure true) (hi : DI_ X none W tg iter it) (ok : BlkOk X.N X.env.scope scope own) (hown : ∀ i ∈ tt.sl, i ∈ own.map (·.2)) (hv : ∀ i ∈ own1, i ∈ own.map (·.2)) (hown1 : ∀ i ∈ tt1.sl, i ∈ own1)
    (hg : ∀ (s : Shared) (H : Hp) (C : Addr) (cl : List (Str × Addr)) (fp : List Addr), DG (X.blk s H scope (compEnvC scope cl C X.env) fp) none tg tt)
    (ht : ∀ (s : Shared) (H : Hp) (C : Addr) (cl : List (Str × Addr)) (fp : List Addr), DTs (X.blk s H scope (compEnvC scope cl C X.env) fp) none W0 ifs t)
    (hi1 : ∀ (s : Shared) (H : Hp) (C : Addr) (cl : List (Str × Addr)) (fp : List Addr), DI_ (X.blk s H scope (compEnvC scope cl C X.env) fp) none W0 tg1 iter1 it1)
    (hg1 : ∀ (s : Shared) (H : Hp) (C : Addr) (cl : List (Str × Addr)) (fp : List Addr), DG (X.blk s H scope (compEnvC scope cl C X.env) fp) none tg1 tt1)
    (ht1 : ∀ (s : Shared) (H : Hp) (C : Addr) (cl : List (Str × Addr)) (fp : List Addr), DTs (X.blk s H scope (compEnvC scope cl C X.env) fp) none W0 ifs1 t1)
    (he : ∀ (s : Shared) (H : Hp) (C : Addr) (cl : List (Str × Addr)) (fp : List Addr), DE (X.blk s H scope (compEnvC scope cl C X.env) fp) none W0 elt f) (hs : ∀ x, foldedSetIterable iter X.env x = pure x := by intro _; rfl) (hs1 : ∀ env x, foldedSetIterable iter1 env x = pure x := by intro _ _; rfl) :
    DS X none W (.Assign [.Name y py] (.ListComp elt [⟨tg, iter, ifs, 0⟩, ⟨tg1, iter1, ifs1, 0⟩] scope pos) spos) (sAsg i (eLc2 it tt t it1 tt1 t1 f (own.map (·.2)) own1)) := by
  refine (ps_setLc2 (g := gG (Cx.k X none) tt) (tt := gE (Cx.k X none) W0 rB t) (wi1 := gE (Cx.k X none) W0 (ItOk (Cx.k X none)) it1) (g1 := gG (Cx.k X none) tt1) (tt1 := gE (Cx.k X none) W0 rB t1) (te := gE (Cx.k X none) W0 (rD (Cx.k X none)) f) hc hN hy hyl hsw hi ok hv hg ht hi1 hg1 ht1 he hs hs1).imp ?_
  rintro Dn σ H ⟨p, M, ρ, o, R, L, e, po⟩
  refine lc2_of (k := Cx.k X none) rfl hown hown1 ?_
  refine gE_exB R L e po fun d M1 p1 H1 v R1 L1 hl1 hp1 q1 e1 po1 => ?_
  cases e1
  exact po1.nx R1 (L1.set i q1)
end
end DI

end

section
set_option Elab.async false
set_option linter.all false
set_option maxRecDepth 100000
set_option maxHeartbeats 4000000
/-! DI26: {2: 6, ..}[x] of constants; x is True; list.insert. -/
namespace DI
open PySem PySem.Spec PyProof.Rows L2
def DPI (X : Cx) (pos : Pos) (keys : List (Option Expr)) (values : List Expr) (l : List (Int × Int)) : Prop :=
  ∃ trs, PPs X pos keys values trs ∧ ∀ σ H (Q : List (V × V) → Hp → Prop), Q (l.map fun kv => (V.int kv.1, V.int kv.2)) H → tPairs trs σ H Q
section
variable {X : Cx} {z : Zx} {W : WX} {pos dpos p p' : Pos} {keys : List (Option Expr)} {values : List Expr} {l : List (Int × Int)} {i n : Int} {j j' : Nat} {b : Expr} {fb : EF}
theorem dpi_nil : DPI X pos [] [] [] := ⟨[], pps_nil, fun _ _ _ q => q⟩
theorem dpi_cons (hr : DPI X pos keys values l) : DPI X pos (some (.Constant (.int i) j p) :: keys) (.Constant (.int n) j' p' :: values) ((i, n) :: l) := by
  obtain ⟨trs, h1, h2⟩ := hr
  exact ⟨_, pps_cons pe_int pe_int h1, fun σ H Q q => h2 σ H _ q⟩
/-- {i: n, ..}[x] -/
def eTabI (l : List (Int × Int)) (fx : EF) : EF := fun r M => bnd (fx r M) fun d M1 => match d with
  | .int i => pr M1 ((l.lookup i).map D.int)
  | _ => none
theorem tab_get {i n : Int} : ∀ {l : List (Int × Int)}, l.lookup i = some n → valV (l.map fun kv => ((Sum.inl kv.1 : Key), V.int kv.2)) (Sum.inl i) = some (.int n)
  | [], h => nomatch h
  | (x, e) :: l, q => by
    rw [List.lookup_cons] at q
    rw [List.map_cons]
    by_cases hf : i == x
    · rw [hf] at q
      cases q
      rw [eq_of_beq hf]
      exact valV_pos (p := ((Sum.inl x : Key), V.int n)) rfl
    · rw [Bool.not_eq_true] at hf
      rw [hf] at q
      rw [valV_neg (p := ((Sum.inl x : Key), V.int e)) (fun e2 => by
        have : x = i := Sum.inl.inj e2
        rw [this, beq_self_eq_true] at hf
        cases hf)]
      exact tab_get q
theorem de_tabI (hu : X.A.units + 1 < cLine) (h : DPI X dpos keys values l) (m : Nat) {x : Str} (hN : X.N[m]? = some x := by rfl) (hv : Vis X.env.scope x := by first | exact Or.inl rfl | exact Or.inr (Or.inl rfl) | exact Or.inr (Or.inr rfl)) (hd : (x == ("__debug__" : Str)) = false := by decide) (hcd : (x == ("__classdict__" : Str)) = false := by decide)
    (hn : (l.map (·.1)).Nodup := by decide) (hall : keys.all (·.isSome) = true := by rfl) (hl : keys.length = values.length := by rfl) (h0 : keys ≠ [] := by exact fun h => nomatch h) (h15 : keys.length ≤ 15 := by decide) (hl15 : l.length ≤ 15 := by decide) : DE X z W (.Subscript (.Dict keys values dpos) (.Name x p) pos) (eTabI l (eVar m)) := by
  obtain ⟨trs, h1, h2⟩ := h
  refine (pe_dget hu (pe_disp h1 hall hl h0 h15) (pe_var (i := m) hN hv hd hcd) (by exact fun _ _ => rfl)).imp ?_
  rintro σ H Q ⟨p, M, ρ, o, R, L, e, po⟩
  intro a ha
  refine h2 σ _ _ ⟨upd_same, l.map fun kv => ((Sum.inl kv.1 : Key), V.int kv.2), ?_, by rw [List.length_map]; exact hl15, ?_⟩
  · rw [List.map_map]
    rfl
  · rw [merge_new _ [] ?_ (fun x hx y hy => nomatch hy), List.nil_append]
    · have eu : upd (upd H a (.dK [])) a (.dK (l.map fun kv => ((Sum.inl kv.1 : Key), V.int kv.2))) = upd H a (.dK (l.map fun kv => ((Sum.inl kv.1 : Key), V.int kv.2))) := by
        funext x
        unfold upd
        split <;> rfl
      rw [eu]
      have R1 := R.other (u := .dK (l.map fun kv => ((Sum.inl kv.1 : Key), V.int kv.2))) ha
      have hle : Le H (upd H a (.dK (l.map fun kv => ((Sum.inl kv.1 : Key), V.int kv.2)))) := Le.new ha
      unfold eTabI eVar at e
      cases hr : ρ[m]? with
      | none => rw [hr] at e; cases e
      | some u =>
        cases u with
        | none => rw [hr] at e; cases e
        | some d =>
          rw [hr] at e
          obtain ⟨v, hv', q⟩ := L.at_ m d hr
          refine ⟨v, hv', ?_⟩
          cases d with
          | int i =>
            unfold Rep at q
            subst q
            simp only [bnd_ok] at e
            cases hl : l.lookup i with
            | none => rw [hl] at e; cases e
            | some n =>
              rw [hl] at e
              cases e
              have g := DGet.k (k := Sum.inl i) (H := upd H a (.dK (l.map fun kv => ((Sum.inl kv.1 : Key), V.int kv.2)))) (a := a) upd_same
              rw [tab_get hl] at g
              exact ⟨a, .int n, rfl, g, po p _ _ (List.prefix_refl _) hle R1 rep_int⟩
          | _ => cases e
    · have e3 : (l.map fun kv => ((Sum.inl kv.1 : Key), V.int kv.2)).map (·.1) = (l.map (·.1)).map fun x => (Sum.inl x : Key) := by
        rw [List.map_map, List.map_map]
        rfl
      rw [e3]
      exact List.Pairwise.map _ (fun x y h e => h (Sum.inl.inj e)) hn
end
/-! ### is True -/
def isbG : G2 := fun x y M => match x, y with
  | .bl a, .bl b => some (.ok (.bl (decide (a = b))) M)
  | _, _ => none
def isnbG : G2 := fun x y M => match x, y with
  | .bl a, .bl b => some (.ok (.bl (!decide (a = b))) M)
  | _, _ => none
theorem od_isb {k : Kx} : OD k (fun x y H Q => ∃ a b, x = .bl a ∧ y = .bl b ∧ Q (.bl (decide (a = b))) H) isbG := by
  intro p M H x y v u o Q W σ R rx ry e po
  unfold isbG at e
  split at e
  · cases e
    unfold Rep at rx ry
    exact ⟨_, _, rx, ry, po.ok R rep_bl⟩
  · cases e
theorem od_isnb {k : Kx} : OD k (fun x y H Q => ∃ a b, x = .bl a ∧ y = .bl b ∧ Q (.bl (!decide (a = b))) H) isnbG := by
  intro p M H x y v u o Q W σ R rx ry e po
  unfold isnbG at e
  split at e
  · cases e
    unfold Rep at rx ry
    exact ⟨_, _, rx, ry, po.ok R rep_bl⟩
  · cases e
/-! ### x in t, t a tuple of data -/
def inTG (neg : Bool) : G2 := fun x y M => match toP M 9 x, toP M 9 y with
  | some d, some (.tuple ds) => if d.canLay0 && PyData.canLayAll0 ds then some (.ok (.bl (if neg then !(ds.any fun z => PyData.eqv z d) else ds.any fun z => PyData.eqv z d)) M) else none
  | _, _ => none
def rInT (K : PySem.W.Frag) (neg : Bool) : R2 := fun x y H Q => ∃ d ds, Dp K H x d ∧ Dp K H y (.tuple ds) ∧ d.canLay0 = true ∧ PyData.canLayAll0 ds = true ∧ d.depth ≤ 60 ∧ Q (.bl (if neg then !(ds.any fun z => PyData.eqv z d) else ds.any fun z => PyData.eqv z d)) H
theorem op_inT {X : Cx} (hu : X.A.units + 64 < cLine) : OpR X (compareOp .In) (rInT X.K false) := by
  intro pins s σ H x y v u Q I rx ry h
  obtain ⟨d, ds, hd, he, sd, se, hz, q⟩ := h
  obtain ⟨as, r1⟩ := Dp.reads I d x v hd rx
  obtain ⟨bs, r2⟩ := Dp.reads I (.tuple ds) y u he ry
  have hm : min (PyData.depthAll ds) d.depth ≤ d.depth := Nat.min_le_right _ _
  exact SeqAt.in_tuple_reads r2 r1 se sd (by omega) ⟨.bl _, H, I, rfl, q⟩
theorem op_notInT {X : Cx} (hu : X.A.units + 64 < cLine) : OpR X (compareOp .NotIn) (rInT X.K true) := by
  intro pins s σ H x y v u Q I rx ry h
  obtain ⟨d, ds, hd, he, sd, se, hz, q⟩ := h
  obtain ⟨as, r1⟩ := Dp.reads I d x v hd rx
  obtain ⟨bs, r2⟩ := Dp.reads I (.tuple ds) y u he ry
  have hm : min (PyData.depthAll ds) d.depth ≤ d.depth := Nat.min_le_right _ _
  exact SeqAt.notIn_tuple_reads r2 r1 se sd (by omega) ⟨.bl _, H, I, rfl, q⟩
theorem od_inT {k : Kx} {neg : Bool} : OD k (rInT k.K neg) (inTG neg) := by
  intro p M H x y v u o Q W σ R rx ry e po
  unfold inTG at e
  split at e
  · rename_i d ds h1 h2
    split at e
    · rename_i hc
      rw [Bool.and_eq_true] at hc
      cases e
      obtain ⟨a1, a2, a3⟩ := toP_ok R 9 x v d rx h1
      obtain ⟨b1, b2, b3⟩ := toP_ok R 9 y u (.tuple ds) ry h2
      exact ⟨d, ds, a1, b1, hc.1, hc.2, by omega, po.ok R rep_bl⟩
    · cases e
  · cases e
/-! ### xs.insert(i, y) -/
def insertG (i : Nat) (ds as : List D) (M : Hd) : Option (Rs D) := match as with
  | [.int j, y] => if 0 ≤ j ∧ j < 1000000 ∧ ds.length < 16777216 then some (.ok .non (M.set i (.lst (ds.take j.toNat ++ [y] ++ ds.drop j.toNat)))) else none
  | _ => none
theorem de_insert {X : Cx} {z : Zx} {W : WX} {a e : Expr} {es : List Expr} {fa : EF} {g : AF} {ap pos : Pos} (ha : DE X z W a fa) (hb : DA X z W (e :: es) g) (hbm : attributeBase a "insert" X.env (eval a X.env) = eval a X.env := by rfl) (he : starEach (e :: es) X.env = (false, eval e X.env) :: starEach es X.env := by rfl)
    (hfew : ((backTo pos (starEach (e :: es) X.env)).all (fun x => !x.1) && (backToKw pos (keywordEach [] X.env)).all (fun x => x.1.isSome) && decide ((e :: es).length + ([] : List Keyword).length + (if ([] : List Keyword).isEmpty then 0 else 1) < 30)) = true := by rfl)
    (hln : (ap.endLine == pos.line) = true := by rfl) (hpl : (backTo pos (starEach es X.env)).any (·.1) = false := by rfl) : DE X z W (.Call (.Attribute a "insert" ap) (e :: es) [] pos) (eLm insertG fa g) := by
  refine (pe_bm PySem.F.plainAttrs_list PySem.F.slot_list_insert PySem.F.type_list_insert mt_insert ha hb hbm hfew hln he hpl).imp fun σ H Q q => ?_
  refine gE_lm (k := Cx.k X z) (fun {p M H a i ds vs as ws o Q} σ R ha ho s r0 q1 e po => ?_) q
  unfold insertG at e
  split at e
  · rename_i j y
    split at e
    · rename_i hj
      cases e
      unfold Reps at q1
      obtain ⟨v1, ws1, rfl, q1, q2⟩ := q1
      obtain ⟨v2, rfl, q3⟩ := reps1 q2
      unfold Rep at q1
      subst q1
      refine ⟨a, vs, j, v2, rfl, rfl, s, ?_, hj.1, by omega, ?_⟩
      · rw [← reps_len r0]
        exact line_lt hj.2.2
      · exact rep_put R ha (reps_app (reps_app (reps_take _ r0) (reps_cons q3 reps_nil)) (reps_drop _ r0)) rep_non po
    · cases e
  · cases e
end DI

end

section
set_option Elab.async false
set_option linter.all false
set_option maxRecDepth 100000
set_option maxHeartbeats 4000000
/-! DI27: texts: slices, signs, split, join, str(), int(), f-strings; {} as a thing. -/
namespace DI
open PySem PySem.Spec PyProof.Rows L2
/-! ### {} as a thing without entries -/
def eNewK : EF := fun _ M => some (.ok (.ref M.length) (M ++ [.dic []]))
theorem de_dnewK {X : Cx} {z : Zx} {W : WX} {pos : Pos} : DE X z W (.Dict [] [] pos) eNewK := by
  refine pe_dnewK.imp ?_
  rintro σ H Q ⟨p, M, ρ, o, R, L, e, po⟩
  intro a ha
  cases e
  exact po (p ++ [a]) _ (.ref a) (List.prefix_append p [a]) (Le.new ha) (R.new ha ⟨[], upd_same, .nil⟩) (rep_ref (by
    rw [← R.len, List.getElem?_append_right (Nat.le_refl _), Nat.sub_self]
    rfl))
/-! ### slices of a text -/
def sliceS (d : D) (lo hi : Option Int) (M : Hd) : Option (Rs D) := match d with
  | .str z => if z.length ≤ 16777216 then some (.ok (.str (cutS z lo hi)) M) else none
  | _ => none
def eSlS (f : EF) (lo hi : OF) : EF := fun r M => bnd (f r M) fun d M1 => bnd (lo r M1) fun l M2 => bnd (hi r M2) fun h M3 => sliceS d l h M3
section
variable {X : Cx} {z : Zx} {W : WX} {a b e o tg : Expr} {f fa fb fo : EF} {pos p : Pos}
theorem de_sliceS {lo hi : Option Expr} {fl fh : OF} {p2 : Pos} (he : DE X z W e f) (hl : DO X z W lo fl) (hh : DO X z W hi fh) : DE X z W (.Subscript e (.Slice lo hi none p2) pos) (eSlS f fl fh) := by
  refine (pe_slice sl_str he hl hh).imp ?_
  rintro σ H Q ⟨p, M, ρ, o, R, L, e, po⟩
  refine gE_bnd R L e po fun d M1 p1 H1 v R1 L1 hl1 hp1 q1 e1 po1 => ?_
  refine gE_bnd R1 L1 e1 po1 fun l M2 p2 H2 l' R2 L2 hl2 hp2 q2 e2 po2 => ?_
  refine gE_bnd R2 L2 e2 po2 fun u M3 p3 H3 u' R3 L3 hl3 hp3 q3 e3 po3 => ?_
  cases q2
  cases q3
  cases d with
  | str y =>
    unfold sliceS at e3
    dsimp only at e3
    split at e3
    · rename_i hz
      cases e3
      unfold Rep at q1
      subst q1
      exact ⟨y, rfl, line_eq hz, po3.ok R3 rep_str⟩
    · cases e3
  | _ => cases e3
/-! ### a sign in a text -/
def sgnOf : D → Option Nat
  | .str ⟨⟨[c]⟩⟩ => some c
  | _ => none
def inSG (neg : Bool) : G2 := fun x y M => match sgnOf x, y with
  | some c, .str t => some (.ok (.bl (if neg then !decide (c ∈ t.cps.toList) else decide (c ∈ t.cps.toList))) M)
  | _, _ => none
theorem sgn_of {d : D} {c : Nat} (h : sgnOf d = some c) : d = .str ⟨#[c]⟩ := by
  unfold sgnOf at h
  split at h
  · cases h; rfl
  · cases h
theorem od_inS {k : Kx} : OD k (fun x y H Q => ∃ (c : Nat) (z : Str), x = .str ⟨#[c]⟩ ∧ y = .str z ∧ Q (.bl (decide (c ∈ z.cps.toList))) H) (inSG false) := by
  intro p M H x y v u o Q W σ R rx ry e po
  unfold inSG at e
  split at e
  · rename_i c t hc
    cases e
    rw [sgn_of hc] at rx
    unfold Rep at rx ry
    exact ⟨c, t, rx, ry, po.ok R rep_bl⟩
  · cases e
theorem od_notInS {k : Kx} : OD k (fun x y H Q => ∃ (c : Nat) (z : Str), x = .str ⟨#[c]⟩ ∧ y = .str z ∧ Q (.bl (!decide (c ∈ z.cps.toList))) H) (inSG true) := by
  intro p M H x y v u o Q W σ R rx ry e po
  unfold inSG at e
  split at e
  · rename_i c t hc
    cases e
    rw [sgn_of hc] at rx
    unfold Rep at rx ry
    exact ⟨c, t, rx, ry, po.ok R rep_bl⟩
  · cases e
/-! ### for c in a text -/
def sgns (x : Str) : List D := x.cps.toList.map fun c => D.str ⟨#[c]⟩
def strI (f : EF) : IF := fun r M => bnd (f r M) fun d M1 => match d with
  | .str x => some (.ok (sgns x, []) M1)
  | _ => none
theorem di_str (he : DE X z W e f) : DI_ X z W tg e (strI f) := by
  refine (pi_str he).imp ?_
  rintro σ H Q ⟨p, M, ρ, o, R, L, e, po⟩
  refine gE_bnd R L e po fun d M1 p1 H1 v R1 L1 hl1 hp1 q1 e1 po1 => ?_
  cases d with
  | str x =>
    cases e1
    unfold Rep at q1
    subst q1
    refine ⟨x, rfl, po1.ok R1 ?_⟩
    intro i p' M' H' hp hl R' S
    refine ⟨fun d e => ?_, fun e => ?_⟩
    · unfold sgns at e
      rw [List.getElem?_map] at e
      obtain ⟨c, hc, rfl⟩ := Option.map_eq_some_iff.mp e
      have hi : i < x.cps.size := by
        have := (List.getElem?_eq_some_iff.mp hc).1
        rwa [Array.length_toList] at this
      refine ⟨hi, fun v H2 y => ?_⟩
      obtain ⟨rfl, c', hc', rfl⟩ := y
      rw [Array.getElem?_toList] at hc
      rw [hc] at hc'
      cases hc'
      exact ⟨Le.refl _, R', rep_str⟩
    · unfold sgns at e
      rw [List.length_map, Array.length_toList] at e
      rw [e]
      exact Nat.le_refl _
  | _ => cases e1
/-! ### split, join -/
def splitG : G2 := fun x y M => match x, y with
  | .str a, .str b => if (b.length == 0) = false ∧ a.length + 2 ≤ 16777216 then some (.ok (.ref M.length) (M ++ [.lst ((Txt.split a b).map D.str)])) else none
  | _, _ => none
def isStrD : D → Bool
  | .str _ => true
  | _ => false
def eSplit (fo fa : EF) : EF := fun r M => bnd (fo r M) fun x M1 => if isStrD x = true then bnd (fa r M1) fun y M2 => splitG x y M2 else none
theorem reps_strs {K : PySem.W.Frag} {p : List Addr} {H : Hp} : ∀ (ys : List Str), Reps K p H (ys.map D.str) (ys.map V.str)
  | [] => reps_nil
  | y :: ys => reps_cons rep_str (reps_strs ys)
theorem isStr_of {d : D} (h : isStrD d = true) : ∃ a, d = .str a := by
  cases d with
  | str a => exact ⟨a, rfl⟩
  | _ => cases h
theorem de_split {ap : Pos} (ho : DE X z W o fo) (he : DE X z W e f) (hs : starEach [e] X.env = [(false, eval e X.env)] := by rfl) (hbase : attributeBase o "split" X.env (eval o X.env) = eval o X.env := by rfl) (hline : (ap.endLine == pos.line) = true := by rfl) : DE X z W (.Call (.Attribute o "split" ap) [e] [] pos) (eSplit fo f) := by
  refine (pe_split ho he hs hbase hline).imp ?_
  rintro σ H Q ⟨p, M, ρ, o, R, L, e, po⟩
  refine gE_bnd R L e po fun d M1 p1 H1 v R1 L1 hl1 hp1 q1 e1 po1 => ?_
  split at e1
  · rename_i hd
    obtain ⟨a, rfl⟩ := isStr_of hd
    unfold Rep at q1
    subst q1
    refine ⟨⟨a, rfl⟩, ?_⟩
    refine gE_bnd R1 L1 e1 po1 fun d2 M2 p2 H2 v2 R2 L2 hl2 hp2 q2 e2 po2 => ?_
    unfold splitG at e2
    cases d2 with
    | str b =>
      dsimp only at e2
      split at e2
      · rename_i hc
        cases e2
        unfold Rep at q2
        subst q2
        exact ⟨_, _, rfl, rfl, hc.1, line_eq hc.2, po_lst R2 po2 (reps_strs _)⟩
      · cases e2
    | _ => cases e2
  · cases e1
def strOfD : D → Option Str
  | .str a => some a
  | _ => none
def joinG (a : Str) (d : D) (M : Hd) : Option (Rs D) := match itemsD d M with
  | some ds => (match ds.mapM strOfD with
    | some ys => if (ys.map (·.length)).sum + ys.length * a.length ≤ 16777216 then some (.ok (.str (Txt.join a ys)) M) else none
    | none => none)
  | none => none
def eJoin (fo fa : EF) : EF := fun r M => bnd (fo r M) fun x M1 => match x with
  | .str a => bnd (fa r M1) fun y M2 => joinG a y M2
  | _ => none
theorem mapM_strs : ∀ {ds : List D} {ys : List Str}, ds.mapM strOfD = some ys → ds = ys.map D.str
  | [], ys, h => by cases h; rfl
  | d :: ds, ys, h => by
    rw [List.mapM_cons] at h
    cases hd : strOfD d with
    | none => rw [hd] at h; cases h
    | some y =>
      rw [hd] at h
      cases ht : ds.mapM strOfD with
      | none => rw [ht] at h; cases h
      | some zs =>
        rw [ht] at h
        cases h
        rw [List.map_cons, ← mapM_strs ht]
        congr 1
        cases d with
        | str a => cases hd; rfl
        | _ => cases hd
theorem strs_mapM : ∀ (ys : List Str), (ys.map D.str).mapM strOfD = some ys
  | [] => rfl
  | y :: ys => by
    rw [List.map_cons, List.mapM_cons, strs_mapM ys]
    rfl
theorem reps_strs_eq {K : PySem.W.Frag} {p : List Addr} {H : Hp} : ∀ {ys : List Str} {vs : List V}, Reps K p H (ys.map D.str) vs → vs = ys.map V.str
  | [], vs, h => by unfold Reps at h; exact h
  | y :: ys, vs, h => by
    rw [List.map_cons] at h
    unfold Reps at h
    obtain ⟨v, ws, rfl, h1, h2⟩ := h
    unfold Rep at h1
    rw [h1, reps_strs_eq h2]
    rfl
theorem de_join {ap : Pos} (ho : DE X z W o fo) (he : DE X z W e f) (hs : starEach [e] X.env = [(false, eval e X.env)] := by rfl) (hbase : attributeBase o "join" X.env (eval o X.env) = eval o X.env := by rfl) (hline : (ap.endLine == pos.line) = true := by rfl) : DE X z W (.Call (.Attribute o "join" ap) [e] [] pos) (eJoin fo f) := by
  refine (pe_join ho he hs hbase hline).imp ?_
  rintro σ H Q ⟨p, M, ρ, o, R, L, e, po⟩
  refine gE_bnd R L e po fun d M1 p1 H1 v R1 L1 hl1 hp1 q1 e1 po1 => ?_
  cases d with
  | str a =>
    unfold Rep at q1
    subst q1
    refine ⟨⟨a, rfl⟩, ?_⟩
    refine gE_bnd R1 L1 e1 po1 fun d2 M2 p2 H2 v2 R2 L2 hl2 hp2 q2 e2 po2 => ?_
    unfold joinG at e2
    split at e2
    · rename_i ds hds
      split at e2
      · rename_i ys hys
        split at e2
        · rename_i hz
          cases e2
          obtain ⟨c, vs, rfl, h1, h2⟩ := rep_items R2 q2 hds
          rw [mapM_strs hys] at h2
          have := reps_strs_eq h2
          subst this
          exact ⟨a, c, ys, rfl, rfl, h1, hz, po2.ok R2 rep_str⟩
        · cases e2
      · cases e2
    · cases e2
  | _ => cases e1
/-! ### str(i), int(text) -/
def strG : D → Hd → Option (Rs D) := fun d M => match d with
  | .int i => if i.natAbs.log2 < 1920 then some (.ok (.str (toString i)) M) else none
  | _ => none
def intSG : D → Hd → Option (Rs D) := fun d M => match d with
  | .str a => if a.length ≤ 640 then (match PySem.intText? a with
    | some n => some (.ok (.int n) M)
    | none => none) else none
  | _ => none
theorem de_str1 {p' : Pos} (ha : DE X z W e f) (hm : X.mg "str" = none) (hg : Gl X "str" := by rfl) (he : starEach [e] X.env = (false, eval e X.env) :: starEach [] X.env := by rfl) : DE X z W (.Call (.Name "str" p') [e] [] pos) (eUn strG f) := by
  refine (pe_callTy call_str_int hg hm PyProof.Rows.boot_str (pa_cons ha pa_nil he) (he := he)).imp ?_
  rintro σ H Q ⟨p, M, ρ, o, R, L, e, po⟩
  refine gE_bnd R L e po fun d M1 p1 H1 v R1 L1 hl1 hp1 q1 e1 po1 => ?_
  cases d with
  | int i =>
    unfold strG at e1
    dsimp only at e1
    split at e1
    · rename_i hz
      cases e1
      unfold Rep at q1
      exact ⟨i, by rw [q1], hz, po1.ok R1 rep_str⟩
    · cases e1
  | _ => cases e1
theorem de_intS {p' : Pos} (ha : DE X z W e f) (hm : X.mg "int" = none) (hg : Gl X "int" := by rfl) (he : starEach [e] X.env = (false, eval e X.env) :: starEach [] X.env := by rfl) : DE X z W (.Call (.Name "int" p') [e] [] pos) (eUn intSG f) := by
  refine (pe_callTy call_int_str hg hm PyProof.Rows.boot_int (pa_cons ha pa_nil he) (he := he)).imp ?_
  rintro σ H Q ⟨p, M, ρ, o, R, L, e, po⟩
  refine gE_bnd R L e po fun d M1 p1 H1 v R1 L1 hl1 hp1 q1 e1 po1 => ?_
  cases d with
  | str a =>
    unfold intSG at e1
    dsimp only at e1
    split at e1
    · rename_i hz
      split at e1
      · rename_i n hn
        cases e1
        unfold Rep at q1
        exact ⟨a, n, by rw [q1], hn, hz, po1.ok R1 rep_int⟩
      · cases e1
    · cases e1
  | _ => cases e1
/-! ### f-strings -/
/-- a text or an int, as a text -/
def fmtD : D → Option Str
  | .str y => if y.length ≤ 16777216 then some y else none
  | .int i => if i.natAbs.log2 < 1920 then some (toString i) else none
  | _ => none
def eFmt (f : EF) : EF := fun r M => bnd (f r M) fun d M1 => (match fmtD d with
  | some y => some (.ok (.str y) M1)
  | none => none)
theorem de_fmt (he : DE X z W e f) : DE X z W (.FormattedValue e (-1) none pos) (eFmt f) := by
  refine (pe_fmt he).imp ?_
  rintro σ H Q ⟨p, M, ρ, o, R, L, e, po⟩
  refine gE_bnd R L e po fun d M1 p1 H1 v R1 L1 hl1 hp1 q1 e1 po1 => ?_
  cases d with
  | str y =>
    unfold fmtD at e1
    dsimp only at e1
    split at e1
    · rename_i y' hy
      cases e1
      split at hy
      · rename_i hz
        cases hy
        unfold Rep at q1
        exact .inl ⟨_, q1, line_eq hz, po1.ok R1 rep_str⟩
      · cases hy
    · cases e1
  | int i =>
    unfold fmtD at e1
    dsimp only at e1
    split at e1
    · rename_i y' hy
      cases e1
      split at hy
      · rename_i hz
        cases hy
        unfold Rep at q1
        exact .inr ⟨_, q1, hz, po1.ok R1 rep_str⟩
      · cases hy
    · cases e1
  | _ => cases e1
/-- the parts one behind the other -/
inductive DJ (X : Cx) (z : Zx) (W : WX) : List Expr → List EF → Prop where
  | nil : DJ X z W [] []
  | cons {e : Expr} {f : EF} {es : List Expr} {fs : List EF} (h : DE X z W e f) (r : DJ X z W es fs) : DJ X z W (e :: es) (f :: fs)
def eJs : List EF → Str → EF
  | [], acc => fun _ M => some (.ok (.str acc) M)
  | f :: fs, acc => fun r M => bnd (f r M) fun d M1 => match d with
    | .str y => if (acc ++ y).length ≤ 16777216 then eJs fs (acc ++ y) r M1 else none
    | _ => none
theorem dj_pj {es : List Expr} {fs : List EF} (h : DJ X z W es fs) : PJ X es (fs.map fun f => gE (Cx.k X z) W (rD (Cx.k X z)) f) := by
  induction h with
  | nil => exact .nil
  | cons h _ ih => exact .cons h ih
theorem js_ok {σ : L2.St} {Q : VK} : ∀ (fs : List EF) (acc : Str) (H : Hp), gE (Cx.k X z) W (rD (Cx.k X z)) (eJs fs acc) σ H Q → tJs (fs.map fun f => gE (Cx.k X z) W (rD (Cx.k X z)) f) acc σ H fun out H1 => Q (.str out) H1
  | [], acc, H, ⟨p, M, ρ, o, R, L, e, po⟩ => by
    cases e
    exact po.ok R rep_str
  | f :: fs, acc, H, ⟨p, M, ρ, o, R, L, e, po⟩ => by
    unfold eJs at e
    refine gE_bnd R L e po fun d M1 p1 H1 v R1 L1 hl1 hp1 q1 e1 po1 => ?_
    cases d with
    | str y =>
      dsimp only at e1
      split at e1
      · rename_i hz
        unfold Rep at q1
        exact ⟨y, q1, line_eq hz, js_ok fs (acc ++ y) H1 ⟨p1, M1, ρ, o, R1, L1, e1, po1⟩⟩
      · cases e1
    | _ => cases e1
theorem de_js {v1 v2 : Expr} {rest : List Expr} {fs : List EF} (h : DJ X z W (v1 :: v2 :: rest) fs) : DE X z W (.JoinedStr (v1 :: v2 :: rest) pos) (eJs fs Str.empty) := by
  refine (pe_joined (dj_pj h)).imp ?_
  intro σ H Q q
  exact js_ok fs Str.empty H q
theorem de_js1 (h : DE X z W e f) : DE X z W (.JoinedStr [e] pos) f := pe_joined1 h
end
end DI

end

section
set_option Elab.async false
set_option linter.all false
set_option maxRecDepth 100000
set_option maxHeartbeats 4000000
/-! DI28: an instance made of nothing: C(). -/
namespace DI
open PySem PySem.Spec PyProof.Rows L2
section
variable {X : Cx} {k : Nat} {C f : Addr} {fd : FuncData} {ps : List Str} {sp : Sp} {E : L2.St → XK} {x : Str} {p pos : Pos}
theorem pe_makeAt0 (M : Mk X.K C f) (F : FnOk X.prog X.w X.K X.mg X.base (L2.CX X.prog X.w) k f fd ps sp) (hr : Room (k + 1) X.A) (hg : Gl X x) (hm : X.mg x = some (.ref C)) (hb : Binds X.K fd ps []) (hx : ∀ σ, PassesAt (L2.CX X.prog X.w) X σ (E σ))
    (hdb : (x == ("__debug__" : Str)) = false) :
    PE X (.Call (.Name x p) [] [] pos) (fun σ H Q => tMake C sp [] (E σ) tNil σ H Q) := by
  constructor
  intro pins s σ H Q I h
  exact wpAny_Call_Name_kw (ld_glob I hg hm (PySem.W.callWith_K0 (first := []) I.kIn M.kp (makeAt M F hr hb (hx σ) I .nil h)) hdb)
end
section
variable {X : Cx} {z : Zx} {W : WX} {c : Str} {k n : Nat} {mm : List D → Hd → Option (Rs D)} {p' pos : Pos}
theorem de_make0 (F : MkI X.prog X.w X.K X.mg X.base k c n mm) (tk : Takes X W) (hr : Room (k + 1) X.A) (hgl : Gl X c := by rfl) (hdb : (c == ("__debug__" : Str)) = false := by decide) :
    DE X z W (.Call (.Name c p') [] [] pos) (eMake c mm aNil) := by
  obtain ⟨C, f, fd, ps, h1, h2, h3, h4⟩ := F.ex
  refine (pe_makeAt0 h2 h4 hr hgl h1 h3 (E := fun σ cls d H' => W cls d σ H') (fun σ => passAt tk σ) hdb).imp ?_
  rintro σ H1 Q ⟨p1, M1, ρ, o, R1, L1, e1, po1⟩
  unfold eMake aNil at e1
  rw [bnd_ok] at e1
  intro x dx hx hdx ne
  have hx2 : upd H1 dx (.own x) x = none := by rw [upd_ne (Ne.symm ne)]; exact hx
  have le1 : Le H1 (upd H1 dx (.own x)) := Le.new hdx
  have le2 : Le (upd H1 dx (.own x)) (upd (upd H1 dx (.own x)) x (.ins C dx [])) := Le.new hx2
  have R2 : Rl X.K X.mg (p1 ++ [x]) (M1 ++ [.ins c []]) (upd (upd H1 dx (.own x)) x (.ins C dx [])) := (R1.other hdx).new hx2 ⟨C, dx, [], h1, upd_same, .nil⟩
  have at_ : ∀ {p2 : List Addr}, p1 ++ [x] <+: p2 → p2[M1.length]? = some x := fun {p2} h => by
    obtain ⟨t, rfl⟩ := h
    rw [← R1.len, List.append_assoc, List.getElem?_append_right (Nat.le_refl _), Nat.sub_self]
    rfl
  have q2 : Reps X.K (p1 ++ [x]) (upd (upd H1 dx (.own x)) x (.ins C dx [])) [.ref M1.length] [.ref x] := reps_cons (rep_ref (at_ (List.prefix_refl _))) reps_nil
  rw [List.append_nil]
  cases em : mm [.ref M1.length] (M1 ++ [.ins c []]) with
  | none => rw [em] at e1; cases e1
  | some o2 =>
    refine ⟨p1 ++ [x], _, _, o2, R2, q2, F.ln _ _ _ em, em, ?_⟩
    rw [em] at e1
    cases o2 with
    | er c2 M2 =>
      cases e1
      exact fun p2 H2 C2 hp hl R3 hC => po1 p2 H2 C2 ((List.prefix_append p1 [x]).trans hp) ((le1.trans le2).trans hl) R3 hC
    | ok d M2 =>
      cases d with
      | non =>
        cases e1
        intro p2 H2 v hp hl R3 hv
        unfold Rep at hv
        exact ⟨hv, po1 p2 H2 (.ref x) ((List.prefix_append p1 [x]).trans hp) ((le1.trans le2).trans hl) R3 (rep_ref (at_ hp))⟩
      | _ => cases e1
end
end DI

end

section
set_option Elab.async false
set_option linter.all false
set_option maxRecDepth 100000
set_option maxHeartbeats 4000000
namespace G
open PySem PySem.Spec PyProof.Rows L2 DI
def top (i : Nat) : Stmt := PySem.Challenge.pw_brimful_k49_compiled_programs_are_judged.main.body.getD i (.Pass ⟨0, 0, 0, 0⟩)
def mth (i j : Nat) : Stmt := match top i with
  | .ClassDef _ _ _ b _ _ _ _ _ _ _ => b.getD j (.Pass ⟨0, 0, 0, 0⟩)
  | s => s
abbrev s_is_integer : Stmt := top 8
abbrev s_is_number : Stmt := top 9
abbrev s_is_factor : Stmt := top 30
abbrev s_is_add : Stmt := top 32
abbrev s_is_table : Stmt := top 31
abbrev s_is_look : Stmt := top 33
abbrev s_inverse_of : Stmt := top 11
abbrev s_is_step : Stmt := top 34
abbrev s_is_prime : Stmt := top 10
abbrev s_check_steps : Stmt := top 37
abbrev s_Program___init__ : Stmt := mth 44 0
abbrev s__law_mixed : Stmt := top 61
abbrev s__law_draw : Stmt := top 63
abbrev s__law_source : Stmt := top 70
abbrev s__law_thin_source : Stmt := top 74
abbrev s__law_needs : Stmt := top 72
abbrev s_is_node : Stmt := top 50
abbrev s_check_source : Stmt := top 51
abbrev s_cost : Stmt := top 53
abbrev s_needs : Stmt := top 52
abbrev s_leaf_step : Stmt := top 56
abbrev s_product_tasks : Stmt := top 57
abbrev s_inner_tasks : Stmt := top 58
abbrev s_compile_source : Stmt := top 59
abbrev s_Program___len__ : Stmt := mth 44 1
abbrev s__law_changed : Stmt := top 73
abbrev s__law_points : Stmt := top 66
abbrev s__law_worth : Stmt := top 64
abbrev s__law_run : Stmt := top 65
abbrev s__law_first_spoilt : Stmt := top 67
abbrev s__law_first_leaky : Stmt := top 68
abbrev s__law_verdict : Stmt := top 69
abbrev s_check_program : Stmt := top 17
abbrev s_check_size : Stmt := top 18
abbrev s_points_of : Stmt := top 16
abbrev s_column_of : Stmt := top 19
abbrev s_added : Stmt := top 20
abbrev s_ends : Stmt := top 21
abbrev s_spoilt : Stmt := top 22
abbrev s_leaky : Stmt := top 23
abbrev s_judge : Stmt := top 24
abbrev s__law_numbers : Stmt := top 62
abbrev s_check_numbers : Stmt := top 43
abbrev s_weights : Stmt := top 12
abbrev s_interpolate : Stmt := top 13
abbrev s_perform : Stmt := top 36
abbrev s_Program_run : Stmt := mth 44 4
abbrev s_change_of : Stmt := top 25
abbrev s_shows : Stmt := top 26
abbrev s_refutes : Stmt := top 27
abbrev s__law_meaning : Stmt := top 71
abbrev s_law : Stmt := top 75
end G
namespace E
open PySem PySem.Spec PyProof.Rows L2 DI G
def e_is_integer : He.DefD := ⟨("is_integer", none), "is_integer", "is_integer", defArgs s_is_integer, defBody s_is_integer, defScope s_is_integer, [], []⟩
def e_is_number : He.DefD := ⟨("is_number", none), "is_number", "is_number", defArgs s_is_number, defBody s_is_number, defScope s_is_number, [], []⟩
def e_is_factor : He.DefD := ⟨("is_factor", none), "is_factor", "is_factor", defArgs s_is_factor, defBody s_is_factor, defScope s_is_factor, [], []⟩
def e_is_add : He.DefD := ⟨("is_add", none), "is_add", "is_add", defArgs s_is_add, defBody s_is_add, defScope s_is_add, [], []⟩
def e_is_table : He.DefD := ⟨("is_table", none), "is_table", "is_table", defArgs s_is_table, defBody s_is_table, defScope s_is_table, [], []⟩
def e_is_look : He.DefD := ⟨("is_look", none), "is_look", "is_look", defArgs s_is_look, defBody s_is_look, defScope s_is_look, [], []⟩
def e_inverse_of : He.DefD := ⟨("inverse_of", none), "inverse_of", "inverse_of", defArgs s_inverse_of, defBody s_inverse_of, defScope s_inverse_of, [], []⟩
def e_is_step : He.DefD := ⟨("is_step", none), "is_step", "is_step", defArgs s_is_step, defBody s_is_step, defScope s_is_step, [], []⟩
def e_is_prime : He.DefD := ⟨("is_prime", none), "is_prime", "is_prime", defArgs s_is_prime, defBody s_is_prime, defScope s_is_prime, [], []⟩
def e_check_steps : He.DefD := ⟨("check_steps", none), "check_steps", "check_steps", defArgs s_check_steps, defBody s_check_steps, defScope s_check_steps, [], []⟩
def e_Program___init__ : He.DefD := ⟨("Program", some "__init__"), "__init__", "Program.__init__", defArgs s_Program___init__, defBody s_Program___init__, defScope s_Program___init__, [], []⟩
def e__law_mixed : He.DefD := ⟨("_law_mixed", none), "_law_mixed", "_law_mixed", defArgs s__law_mixed, defBody s__law_mixed, defScope s__law_mixed, [], []⟩
def e__law_draw : He.DefD := ⟨("_law_draw", none), "_law_draw", "_law_draw", defArgs s__law_draw, defBody s__law_draw, defScope s__law_draw, [], []⟩
def e__law_source : He.DefD := ⟨("_law_source", none), "_law_source", "_law_source", defArgs s__law_source, defBody s__law_source, defScope s__law_source, [], []⟩
def e__law_thin_source : He.DefD := ⟨("_law_thin_source", none), "_law_thin_source", "_law_thin_source", defArgs s__law_thin_source, defBody s__law_thin_source, defScope s__law_thin_source, [], []⟩
def e__law_needs : He.DefD := ⟨("_law_needs", none), "_law_needs", "_law_needs", defArgs s__law_needs, defBody s__law_needs, defScope s__law_needs, [], []⟩
def e_is_node : He.DefD := ⟨("is_node", none), "is_node", "is_node", defArgs s_is_node, defBody s_is_node, defScope s_is_node, [], []⟩
def e_check_source : He.DefD := ⟨("check_source", none), "check_source", "check_source", defArgs s_check_source, defBody s_check_source, defScope s_check_source, [], []⟩
def e_cost : He.DefD := ⟨("cost", none), "cost", "cost", defArgs s_cost, defBody s_cost, defScope s_cost, [], []⟩
def e_needs : He.DefD := ⟨("needs", none), "needs", "needs", defArgs s_needs, defBody s_needs, defScope s_needs, [], []⟩
def e_leaf_step : He.DefD := ⟨("leaf_step", none), "leaf_step", "leaf_step", defArgs s_leaf_step, defBody s_leaf_step, defScope s_leaf_step, [], []⟩
def e_product_tasks : He.DefD := ⟨("product_tasks", none), "product_tasks", "product_tasks", defArgs s_product_tasks, defBody s_product_tasks, defScope s_product_tasks, [], []⟩
def e_inner_tasks : He.DefD := ⟨("inner_tasks", none), "inner_tasks", "inner_tasks", defArgs s_inner_tasks, defBody s_inner_tasks, defScope s_inner_tasks, [], []⟩
def e_compile_source : He.DefD := ⟨("compile_source", none), "compile_source", "compile_source", defArgs s_compile_source, defBody s_compile_source, defScope s_compile_source, [], []⟩
def e_Program___len__ : He.DefD := ⟨("Program", some "__len__"), "__len__", "Program.__len__", defArgs s_Program___len__, defBody s_Program___len__, defScope s_Program___len__, [], []⟩
def e__law_changed : He.DefD := ⟨("_law_changed", none), "_law_changed", "_law_changed", defArgs s__law_changed, defBody s__law_changed, defScope s__law_changed, [], []⟩
def e__law_points : He.DefD := ⟨("_law_points", none), "_law_points", "_law_points", defArgs s__law_points, defBody s__law_points, defScope s__law_points, [], []⟩
def e__law_worth : He.DefD := ⟨("_law_worth", none), "_law_worth", "_law_worth", defArgs s__law_worth, defBody s__law_worth, defScope s__law_worth, [], []⟩
def e__law_run : He.DefD := ⟨("_law_run", none), "_law_run", "_law_run", defArgs s__law_run, defBody s__law_run, defScope s__law_run, [], []⟩
def e__law_first_spoilt : He.DefD := ⟨("_law_first_spoilt", none), "_law_first_spoilt", "_law_first_spoilt", defArgs s__law_first_spoilt, defBody s__law_first_spoilt, defScope s__law_first_spoilt, [], []⟩
def e__law_first_leaky : He.DefD := ⟨("_law_first_leaky", none), "_law_first_leaky", "_law_first_leaky", defArgs s__law_first_leaky, defBody s__law_first_leaky, defScope s__law_first_leaky, [], []⟩
def e__law_verdict : He.DefD := ⟨("_law_verdict", none), "_law_verdict", "_law_verdict", defArgs s__law_verdict, defBody s__law_verdict, defScope s__law_verdict, [], []⟩
def e_check_program : He.DefD := ⟨("check_program", none), "check_program", "check_program", defArgs s_check_program, defBody s_check_program, defScope s_check_program, [], []⟩
def e_check_size : He.DefD := ⟨("check_size", none), "check_size", "check_size", defArgs s_check_size, defBody s_check_size, defScope s_check_size, [], []⟩
def e_points_of : He.DefD := ⟨("points_of", none), "points_of", "points_of", defArgs s_points_of, defBody s_points_of, defScope s_points_of, [], []⟩
def e_column_of : He.DefD := ⟨("column_of", none), "column_of", "column_of", defArgs s_column_of, defBody s_column_of, defScope s_column_of, [], []⟩
def e_added : He.DefD := ⟨("added", none), "added", "added", defArgs s_added, defBody s_added, defScope s_added, [], []⟩
def e_ends : He.DefD := ⟨("ends", none), "ends", "ends", defArgs s_ends, defBody s_ends, defScope s_ends, [], []⟩
def e_spoilt : He.DefD := ⟨("spoilt", none), "spoilt", "spoilt", defArgs s_spoilt, defBody s_spoilt, defScope s_spoilt, [], []⟩
def e_leaky : He.DefD := ⟨("leaky", none), "leaky", "leaky", defArgs s_leaky, defBody s_leaky, defScope s_leaky, [], []⟩
def e_judge : He.DefD := ⟨("judge", none), "judge", "judge", defArgs s_judge, defBody s_judge, defScope s_judge, [], []⟩
def e__law_numbers : He.DefD := ⟨("_law_numbers", none), "_law_numbers", "_law_numbers", defArgs s__law_numbers, defBody s__law_numbers, defScope s__law_numbers, [], []⟩
def e_check_numbers : He.DefD := ⟨("check_numbers", none), "check_numbers", "check_numbers", defArgs s_check_numbers, defBody s_check_numbers, defScope s_check_numbers, [], []⟩
def e_weights : He.DefD := ⟨("weights", none), "weights", "weights", defArgs s_weights, defBody s_weights, defScope s_weights, [], []⟩
def e_interpolate : He.DefD := ⟨("interpolate", none), "interpolate", "interpolate", defArgs s_interpolate, defBody s_interpolate, defScope s_interpolate, [], []⟩
def e_perform : He.DefD := ⟨("perform", none), "perform", "perform", defArgs s_perform, defBody s_perform, defScope s_perform, [], []⟩
def e_Program_run : He.DefD := ⟨("Program", some "run"), "run", "Program.run", defArgs s_Program_run, defBody s_Program_run, defScope s_Program_run, [], []⟩
def e_change_of : He.DefD := ⟨("change_of", none), "change_of", "change_of", defArgs s_change_of, defBody s_change_of, defScope s_change_of, [], []⟩
def e_shows : He.DefD := ⟨("shows", none), "shows", "shows", defArgs s_shows, defBody s_shows, defScope s_shows, [], []⟩
def e_refutes : He.DefD := ⟨("refutes", none), "refutes", "refutes", defArgs s_refutes, defBody s_refutes, defScope s_refutes, [], []⟩
def e__law_meaning : He.DefD := ⟨("_law_meaning", none), "_law_meaning", "_law_meaning", defArgs s__law_meaning, defBody s__law_meaning, defScope s__law_meaning, [], []⟩
def e_law : He.DefD := ⟨("law", none), "law", "law", defArgs s_law, defBody s_law, defScope s_law, [], []⟩
def fn : List He.DefD := [e_is_integer, e_is_number, e_is_factor, e_is_add, e_is_table, e_is_look, e_inverse_of, e_is_step, e_is_prime, e_check_steps, e_Program___init__, e__law_mixed, e__law_draw, e__law_source, e__law_thin_source, e__law_needs, e_is_node, e_check_source, e_cost, e_needs, e_leaf_step, e_product_tasks, e_inner_tasks, e_compile_source, e_Program___len__, e__law_changed, e__law_points, e__law_worth, e__law_run, e__law_first_spoilt, e__law_first_leaky, e__law_verdict, e_check_program, e_check_size, e_points_of, e_column_of, e_added, e_ends, e_spoilt, e_leaky, e_judge, e__law_numbers, e_check_numbers, e_weights, e_interpolate, e_perform, e_Program_run, e_change_of, e_shows, e_refutes, e__law_meaning, e_law]
def fa : List He.Fa := [.free "isinstance", .free "int", .free "bool", .glo "is_integer", .glo "is_number", .free "tuple", .free "len", .glo "is_factor", .int "FACTORS"  3, .glo "is_add", .glo "is_table", .glo "is_look", .glo "inverse_of", .glo "is_step", .glo "is_prime", .free "list", .glo "BadStep", .exc "BadStep", .glo "check_steps", .int "MODULUS"  1000000000, .int "CELLS"  60, .int "INPUTS_programs"  60, .int "STEPS"  20000, .noat "Program" "steps", .noat "Program" "inputs", .noat "Program" "cells", .noat "Program" "modulus", .glo "Program", .cls "Program", .mkr "Program", .glo "_law_mixed", .glo "_law_draw", .free "range", .free "max", .glo "_law_source", .glo "_law_thin_source", .glo "_law_needs", .free "str", .int "CONSTANT"  1000000000, .int "INPUTS_sources"  60, .glo "LENGTHS", .glo "is_node", .free "enumerate", .int "NODES"  200, .glo "BadSource", .exc "BadSource", .glo "check_source", .glo "cost", .glo "needs", .glo "leaf_step", .glo "product_tasks", .glo "inner_tasks", .int "MOST_three"  20000, .glo "TooLong", .exc "TooLong", .glo "compile_source", .meth "Program" "__len__", .glo "_law_changed", .glo "_law_points", .glo "_law_worth", .glo "_law_run", .glo "_law_first_spoilt", .glo "_law_first_leaky", .glo "_law_verdict", .glo "check_program", .int "MOST_judge"  400000, .glo "check_size", .glo "points_of", .glo "column_of", .free "zip", .glo "added", .glo "ends", .glo "spoilt", .glo "leaky", .glo "judge", .glo "_law_numbers", .glo "BadMemory", .exc "BadMemory", .glo "check_numbers", .glo "weights", .glo "interpolate", .glo "perform", .meth "Program" "run", .glo "change_of", .glo "shows", .exm "TooLong" "BadMemory" false, .exm "BadSource" "BadMemory" false, .exm "BadMemory" "BadMemory" true, .exm "BadStep" "BadMemory" false, .glo "BrimfulError", .exm "BrimfulError" "BadMemory" false, .glo "refutes", .glo "_law_meaning", .glo "law"]
def exl (K : PySem.W.Frag) : List Bool := [intsB K (He.ga K "LENGTHS") [("const", 2), ("input", 2), ("sum", 3), ("product", 3), ("scaled", 3), ("choose", 4)]]
def ex (K : PySem.W.Frag) : Bool := (exl K).all id
abbrev R : PySem.W.OpenRow := PySem.W.OpenLaw.row PySem.Challenge.rw_brimful_k49_compiled_programs_are_judged
def ts : List He.Tab := [((fun K => He.ga K "LENGTHS"), ["const", "input", "sum", "product", "scaled", "choose"])]
abbrev hk : PySem.W.Hook := DI.hookR 5 fa fn ts ex
def ob (s : PySem.W.SharedT) : He.AlT × Bool := DI.obR 5 fa fn ts ex (HandSHeadRun.getT s)
theorem ob_eq (s : PySem.W.SharedT) : ob s = hk.obs s.abs := DI.obR_eq (HandSHeadRun.getT_eq s)
def loose : List Str := (["_wall", "BrimfulError", "BadStep", "BadMemory", "BadSource", "TooLong", "is_integer", "is_number", "is_prime", "inverse_of", "weights", "interpolate", "MOST_judge", "points_of", "check_program", "check_size", "column_of", "added", "ends", "spoilt", "leaky", "judge", "change_of", "shows", "refutes", "FACTORS", "is_factor", "is_table", "is_add", "is_look"] : List Str) ++ (["is_step", "inverse_step", "perform", "check_steps", "MODULUS", "CELLS", "INPUTS_programs", "STEPS", "check_numbers", "Program", "NODES", "CONSTANT", "INPUTS_sources", "LENGTHS", "is_node", "check_source", "needs", "cost", "MOST_three", "leaf_step", "product_tasks", "inner_tasks", "compile_source", "_law_mixed", "_law_numbers", "_law_draw", "_law_worth", "_law_run", "_law_points", "_law_first_spoilt"] : List Str) ++ (["_law_first_leaky", "_law_verdict", "_law_source", "_law_meaning", "_law_needs", "_law_changed", "_law_thin_source"] : List Str)
theorem run_f (w : World) : HandSHeadRun.RunEq R (PySem.W.view R.prog [75]) hk ob 20000 loose (w.withFollow "special-get-raises" false) := by
  intro os
  kernel_rfl
theorem run_t (w : World) : HandSHeadRun.RunEq R (PySem.W.view R.prog [75]) hk ob 20000 loose (w.withFollow "special-get-raises" true) := by
  intro os
  kernel_rfl
theorem run (w : World) : HandSHeadRun.RunEq R (PySem.W.view R.prog [75]) hk ob 20000 loose w := PySem.W.byRow2 "special-get-raises" (P := fun w => HandSHeadRun.RunEq R (PySem.W.view R.prog [75]) hk ob 20000 loose w) run_f run_t w
end E

end

section
set_option Elab.async false
set_option linter.all false
set_option maxRecDepth 100000
set_option maxHeartbeats 4000000
/-! PL: plain reasoning about mirrors. -/
namespace DI
open PySem L2

/-- it comes to something of which Q holds -/
def Wp {α : Type} (x : Option α) (Q : α → Prop) : Prop := ∃ a, x = some a ∧ Q a
/-- what is wanted of a value, nothing raised -/
def okQ {α : Type} (Q : α → Hd → Prop) : Rs α → Prop
  | .ok a M => Q a M
  | .er _ _ => False
section
variable {α β : Type}
theorem Wp.imp {x : Option α} {Q R : α → Prop} (h : Wp x Q) (k : ∀ a, Q a → R a) : Wp x R := let ⟨a, e, q⟩ := h; ⟨a, e, k a q⟩
theorem Wp.ok {x : Option (Rs α)} {P : α → Hd → Prop} {Q : Rs α → Prop} (h : Wp x (okQ P)) (k : ∀ a M, P a M → Q (.ok a M)) : Wp x Q := by
  obtain ⟨o, e, q⟩ := h
  cases o with
  | ok a M => exact ⟨_, e, k a M q⟩
  | er c M => exact q.elim
theorem wp_law {x : Option (Rs D)} (h : Wp x (okQ fun d _ => d = .bl true)) : ∃ M, x = some (.ok (.bl true) M) := by
  obtain ⟨o, e, q⟩ := h
  cases o with
  | ok d M => exact ⟨M, by rw [e, q]⟩
  | er c M => exact q.elim
theorem wp_some {a : α} {Q : α → Prop} : Wp (some a) Q ↔ Q a := ⟨fun ⟨_, e, q⟩ => Option.some.inj e ▸ q, fun q => ⟨a, rfl, q⟩⟩
theorem wp_none {Q : α → Prop} : Wp none Q ↔ False := ⟨(fun ⟨_, e, _⟩ => nomatch e), False.elim⟩
theorem wp_ite {c : Prop} [Decidable c] {x y : Option α} {Q : α → Prop} : Wp (if c then x else y) Q ↔ if c then Wp x Q else Wp y Q := by split <;> rfl
theorem wp_bnd {x : Option (Rs α)} {k : α → Hd → Option (Rs β)} {Q : Rs β → Prop} : Wp (bnd x k) Q ↔ Wp x fun o => match o with
    | .ok a M => Wp (k a M) Q
    | .er c M => Q (.er c M) := by
  cases x with
  | none => simp [wp_none]
  | some o => cases o <;> simp [wp_some]
theorem wp_exB {x : Option (Rs α)} {r : Ev} {k : α → Hd → Option (Fl × Hd)} {Q : Fl × Hd → Prop} : Wp (exB x r k) Q ↔ Wp x fun o => match o with
    | .ok a M => Wp (k a M) Q
    | .er c M => Q (.xx c r, M) := by
  cases x with
  | none => simp [wp_none]
  | some o => cases o <;> simp [wp_some]
/-- x comes to o -/
theorem wp_of_eq {x : Option α} {o : α} {Q : α → Prop} (h : x = some o) (q : Q o) : Wp x Q := ⟨o, h, q⟩
theorem wp_ok {x : Option (Rs α)} {a : α} {M : Hd} {Q : Rs α → Prop} (h : x = some (.ok a M)) (q : Q (.ok a M)) : Wp x Q := ⟨_, h, q⟩
end
def nxQ (g : SF) (Q : Fl × Hd → Prop) : Fl × Hd → Prop := fun o => match o with
  | (.nx r, M) => Wp (g r M) Q
  | o => Q o
theorem wp_seq {f g : SF} {r : Ev} {M : Hd} {Q : Fl × Hd → Prop} : Wp (sSeq f g r M) Q ↔ Wp (f r M) (nxQ g Q) := by
  unfold sSeq
  cases f r M with
  | none => simp [wp_none]
  | some o => obtain ⟨fl, M1⟩ := o; cases fl <;> simp [wp_some, nxQ]
@[simp] theorem nxQ_nx {g : SF} {Q : Fl × Hd → Prop} {r : Ev} {M : Hd} : nxQ g Q (.nx r, M) ↔ Wp (g r M) Q := Iff.rfl
@[simp] theorem nxQ_rt {g : SF} {Q : Fl × Hd → Prop} {d : D} {M : Hd} : nxQ g Q (.rt d, M) ↔ Q (.rt d, M) := Iff.rfl
@[simp] theorem nxQ_bk {g : SF} {Q : Fl × Hd → Prop} {r : Ev} {M : Hd} : nxQ g Q (.bk r, M) ↔ Q (.bk r, M) := Iff.rfl
@[simp] theorem nxQ_ct {g : SF} {Q : Fl × Hd → Prop} {r : Ev} {M : Hd} : nxQ g Q (.ct r, M) ↔ Q (.ct r, M) := Iff.rfl
@[simp] theorem nxQ_xx {g : SF} {Q : Fl × Hd → Prop} {r : Ev} {c : Str} {M : Hd} : nxQ g Q (.xx c r, M) ↔ Q (.xx c r, M) := Iff.rfl
/-- a def's end -/
def fnQ (Q : Rs D → Prop) : Fl × Hd → Prop := fun o => match o with
  | (.rt d, M) => Q (.ok d M)
  | (.nx _, M) => Q (.ok .non M)
  | (.xx c _, M) => Q (.er c M)
  | _ => False
@[simp] theorem fnQ_rt {Q : Rs D → Prop} {d : D} {M : Hd} : fnQ Q (.rt d, M) ↔ Q (.ok d M) := Iff.rfl
@[simp] theorem fnQ_nx {Q : Rs D → Prop} {r : Ev} {M : Hd} : fnQ Q (.nx r, M) ↔ Q (.ok .non M) := Iff.rfl
@[simp] theorem fnQ_xx {Q : Rs D → Prop} {c : Str} {r : Ev} {M : Hd} : fnQ Q (.xx c r, M) ↔ Q (.er c M) := Iff.rfl
theorem wp_mir {n k : Nat} {g : SF} {ds : List D} {M : Hd} {Q : Rs D → Prop} (hk : ds.length = k) (h : Wp (g (startD n ds) M) (fnQ Q)) : Wp (mir n k g ds M) Q := by
  obtain ⟨o, e, q⟩ := h
  unfold mir
  rw [if_pos hk, e]
  obtain ⟨fl, M1⟩ := o
  cases fl with
  | nx r => exact ⟨_, rfl, q⟩
  | rt d => exact ⟨_, rfl, q⟩
  | xx c r => exact ⟨_, rfl, q⟩
  | bk r => exact q.elim
  | ct r => exact q.elim
/-! ### operators -/
section
variable {a b : Int} {M : Hd}
@[simp] theorem addG_int : addG (.int a) (.int b) M = some (.ok (.int (a + b)) M) := rfl
@[simp] theorem addIG_int : addIG (.int a) (.int b) M = some (.ok (.int (a + b)) M) := rfl
@[simp] theorem subG_int : subG (.int a) (.int b) M = some (.ok (.int (a - b)) M) := rfl
@[simp] theorem negG_int : negG (.int a) M = some (.ok (.int (-a)) M) := rfl
@[simp] theorem ltG_int : ltG (.int a) (.int b) M = some (.ok (.bl (decide (a < b))) M) := rfl
@[simp] theorem leG_int : leG (.int a) (.int b) M = some (.ok (.bl (decide (a ≤ b))) M) := rfl
@[simp] theorem gtG_int : gtG (.int a) (.int b) M = some (.ok (.bl (decide (b < a))) M) := rfl
@[simp] theorem geG_int : geG (.int a) (.int b) M = some (.ok (.bl (decide (b ≤ a))) M) := rfl
@[simp] theorem eqG_int : eqG (.int a) (.int b) M = some (.ok (.bl (decide (a = b))) M) := by rw [← Bool.beq_eq_decide_eq]; rfl
@[simp] theorem neG_int : neG (.int a) (.int b) M = some (.ok (.bl (!decide (a = b))) M) := by rw [← Bool.beq_eq_decide_eq]; rfl
@[simp] theorem eqG_str {x y : Str} : eqG (.str x) (.str y) M = some (.ok (.bl (decide (x = y))) M) := by rw [← Bool.beq_eq_decide_eq]; rfl
@[simp] theorem neG_str {x y : Str} : neG (.str x) (.str y) M = some (.ok (.bl (!decide (x = y))) M) := by rw [← Bool.beq_eq_decide_eq]; rfl
@[simp] theorem eqG_bl {x y : Bool} : eqG (.bl x) (.bl y) M = some (.ok (.bl (x == y)) M) := rfl
@[simp] theorem neG_bl {x y : Bool} : neG (.bl x) (.bl y) M = some (.ok (.bl (!(x == y))) M) := rfl
theorem mulG_r (h : -(2 ^ 64) < b ∧ b < 2 ^ 64) : mulG (.int a) (.int b) M = some (.ok (.int (a * b)) M) := by unfold mulG; exact if_pos (.inr (.inl h))
theorem mulG_l (h : -(2 ^ 64) < a ∧ a < 2 ^ 64) : mulG (.int a) (.int b) M = some (.ok (.int (a * b)) M) := by unfold mulG; exact if_pos (.inl h)
theorem mulIG_r (h : -(2 ^ 64) < b ∧ b < 2 ^ 64) : mulIG (.int a) (.int b) M = some (.ok (.int (a * b)) M) := by unfold mulIG; exact if_pos (.inr h)
theorem mulIG_l (h : -(2 ^ 64) < a ∧ a < 2 ^ 64) : mulIG (.int a) (.int b) M = some (.ok (.int (a * b)) M) := by unfold mulIG; exact if_pos (.inl h)
theorem log2_9000 {n : Nat} (h : n < 2 ^ 64) : n.log2 < 9000 := by
  by_cases h0 : n = 0
  · subst h0; decide
  · exact Nat.lt_trans ((Nat.log2_lt h0).mpr h) (by decide)
theorem divG_ok (h0 : 0 < b) (h : b < 2 ^ 64) : divG (.int a) (.int b) M = some (.ok (.int (a / b)) M) := by
  unfold divG
  exact if_pos ⟨h0, log2_9000 (by omega)⟩
theorem modG_ok (h0 : 0 < b) : modG (.int a) (.int b) M = some (.ok (.int (a % b)) M) := by
  unfold modG
  exact if_pos h0
theorem powG_ok (h : 0 ≤ b) (h1 : b ≤ 1000) (h2 : a.natAbs < 2 ^ 64) : powG (.int a) (.int b) M = some (.ok (.int (a ^ b.toNat)) M) := by
  unfold powG
  exact if_pos ⟨h, by omega, h2⟩
theorem powG_10 (h : 0 ≤ b) (h1 : b ≤ 1000) : powG (.int 10) (.int b) M = some (.ok (.int (10 ^ b.toNat)) M) := powG_ok h h1 (by decide)
theorem powG_2 (h : 0 ≤ b) (h1 : b ≤ 1000) : powG (.int 2) (.int b) M = some (.ok (.int (2 ^ b.toNat)) M) := powG_ok h h1 (by decide)
@[simp] theorem ixG_tup {ds : List D} {i : Int} : ixG (.tup ds) (.int i) M = pr M (atI ds i) := rfl
@[simp] theorem ixG_fl {ds : List D} {i : Int} : ixG (.fl ds) (.int i) M = pr M (atI ds i) := rfl
theorem ixG_ref {ds : List D} {i : Int} {p : Nat} (h : M[p]? = some (.lst ds)) : ixG (.ref p) (.int i) M = pr M (atI ds i) := by
  show (match M[p]? with | some (.lst ds) => pr M (atI ds i) | _ => none) = _
  rw [h]
theorem lenD_ref {ds : List D} {p : Nat} (h : M[p]? = some (.lst ds)) : lenD (.ref p) M = some (.ok (.int ds.length) M) := by
  show (match M[p]? with | some (.lst ds) => some (Rs.ok (D.int ds.length) M) | _ => none) = _
  rw [h]
@[simp] theorem lenD_tup {ds : List D} : lenD (.tup ds) M = some (.ok (.int ds.length) M) := rfl
@[simp] theorem lenD_fl {ds : List D} : lenD (.fl ds) M = some (.ok (.int ds.length) M) := rfl
theorem atI_nn {α : Type} {xs : List α} {i : Int} {v : α} (h0 : 0 ≤ i) (h : xs[i.toNat]? = some v) : atI xs i = some v := by
  have := atI_nat (xs := xs) (j := i.toNat) h
  rwa [Int.toNat_of_nonneg h0] at this
end
section
variable {a b c d : D} {l : List D} {M : Hd} {i : Int} {p q : Nat}
@[simp] theorem atI_c0 : atI (a :: l) 0 = some a := atI_nat (j := 0) rfl
@[simp] theorem atI_c1 : atI (a :: b :: l) 1 = some b := atI_nat (j := 1) rfl
@[simp] theorem atI_c2 : atI (a :: b :: c :: l) 2 = some c := atI_nat (j := 2) rfl
@[simp] theorem atI_c3 : atI (a :: b :: c :: d :: l) 3 = some d := atI_nat (j := 3) rfl
theorem ixN_c0 : ixN (l.length + 1) 0 = some 0 := by simp [ixN]
theorem ixN_2 : ixN 2 1 = some 1 := by simp [ixN]
theorem ixG_r : ixG (.ref p) (.int i) M = match M[p]? with | some (.lst ds) => pr M (atI ds i) | _ => none := rfl
theorem lenD_r : lenD (.ref p) M = match M[p]? with | some (.lst ds) => some (Rs.ok (D.int ds.length) M) | _ => none := rfl
theorem addG_r : addG (.ref p) (.ref q) M = match M[p]?, M[q]? with
    | some (.lst a), some (.lst b) => if a.length + b.length ≤ 16777216 then some (.ok (.ref M.length) (M ++ [.lst (a ++ b)])) else none
    | _, _ => none := rfl
theorem if_sm {α : Type} {i : Int} {a b : α} [Decidable (Sm i)] (h : -4611686018427387904 ≤ i ∧ i < 4611686018427387904) : (if Sm i then a else b) = a := if_pos h
theorem if_smP {i : Int} {a b : Prop} [Decidable (Sm i)] (h : -4611686018427387904 ≤ i ∧ i < 4611686018427387904) : (if Sm i then a else b) = a := if_pos h
theorem if_smP2 {i j : Int} {a b : Prop} [Decidable (Sm i ∧ Sm j)] (h : (-4611686018427387904 ≤ i ∧ i < 4611686018427387904) ∧ (-4611686018427387904 ≤ j ∧ j < 4611686018427387904)) : (if Sm i ∧ Sm j then a else b) = a := if_pos h
theorem set_app {R : Hd} {o o2 : O} : (R ++ [o]).set R.length o2 = R ++ [o2] := by simp
theorem get_mid {R Y : Hd} {o : O} : (R ++ o :: Y)[R.length]? = some o := by simp
theorem set_mid {R Y : Hd} {o o2 : O} : (R ++ o :: Y).set R.length o2 = R ++ o2 :: Y := by simp
theorem atI_rng {F : Nat → D} {c : Nat} {i : Int} (h0 : 0 ≤ i) (h1 : i < c) : atI ((List.range c).map F) i = some (F i.toNat) := by
  apply atI_nn h0
  rw [List.getElem?_map, List.getElem?_range (by omega)]
  rfl
@[simp] theorem intG_int : intG (.int i) M = some (.ok (.int i) M) := rfl
@[simp] theorem intG_bl {b : Bool} : intG (.bl b) M = some (.ok (.int (if b then 1 else 0)) M) := rfl
@[simp] theorem min2_int {j : Int} : min2 [.int i, .int j] M = some (.ok (.int (if j < i then j else i)) M) := rfl
@[simp] theorem max2_int {j : Int} : max2 [.int i, .int j] M = some (.ok (.int (if j > i then j else i)) M) := rfl
section
variable {T : Ty}
theorem isiG_non : isiG T .non M = some (.ok (.bl (Ty.non.sub T)) M) := rfl
theorem isiG_int : isiG T (.int i) M = some (.ok (.bl (Ty.int.sub T)) M) := rfl
theorem isiG_bl {b : Bool} : isiG T (.bl b) M = some (.ok (.bl (Ty.bl.sub T)) M) := rfl
theorem isiG_str {b : Str} : isiG T (.str b) M = some (.ok (.bl (Ty.str.sub T)) M) := rfl
theorem isiG_tup {b : List D} : isiG T (.tup b) M = some (.ok (.bl (Ty.tup.sub T)) M) := rfl
theorem isiG_fl {b : List D} : isiG T (.fl b) M = some (.ok (.bl (Ty.lst.sub T)) M) := rfl
end
end
section
variable {r : Ev} {M : Hd} {g g' : G2} {fa fb fc : EF}
theorem eChain_r : eChain g g' fa fb fc r M = bnd (fa r M) fun x M1 => bnd (fb r M1) fun y M2 => bnd (bnd (g x y M2) bOf) fun b M3 => if b = true then bnd (fc r M3) fun u M4 => g' y u M4 else some (.ok (.bl false) M3) := by
  unfold eChain
  congr 1; funext x M1; congr 1; funext y M2
  cases g x y M2 with
  | none => rfl
  | some o =>
    cases o with
    | er c M3 => rfl
    | ok d M3 =>
      cases d with
      | bl b => cases b <;> rfl
      | _ => rfl
theorem eAnd_r : eAnd fa fb r M = bnd (bnd (fa r M) bOf) fun b M3 => if b = true then fb r M3 else some (.ok (.bl false) M3) := by
  unfold eAnd
  cases fa r M with
  | none => rfl
  | some o =>
    cases o with
    | er c M3 => rfl
    | ok d M3 =>
      cases d with
      | bl b => cases b <;> rfl
      | _ => rfl
theorem eOr_r : eOr fa fb r M = bnd (bnd (fa r M) bOf) fun b M3 => if b = true then some (.ok (.bl true) M3) else fb r M3 := by
  unfold eOr
  cases fa r M with
  | none => rfl
  | some o =>
    cases o with
    | er c M3 => rfl
    | ok d M3 =>
      cases d with
      | bl b => cases b <;> rfl
      | _ => rfl
end
/-! ### loops -/
def lpQ (P : Ev → Hd → Prop) (Q : Fl × Hd → Prop) : Fl × Hd → Prop := fun o => match o with
  | (.nx r, M) => P r M
  | (.ct r, M) => P r M
  | (.bk r, M) => Q (.nx r, M)
  | o => Q o
section
variable {P : Ev → Hd → Prop} {Q : Fl × Hd → Prop} {r : Ev} {M : Hd} {d : D} {c : Str}
@[simp] theorem lpQ_nx : lpQ P Q (.nx r, M) ↔ P r M := Iff.rfl
@[simp] theorem lpQ_ct : lpQ P Q (.ct r, M) ↔ P r M := Iff.rfl
@[simp] theorem lpQ_bk : lpQ P Q (.bk r, M) ↔ Q (.nx r, M) := Iff.rfl
@[simp] theorem lpQ_rt : lpQ P Q (.rt d, M) ↔ Q (.rt d, M) := Iff.rfl
@[simp] theorem lpQ_xx : lpQ P Q (.xx c r, M) ↔ Q (.xx c r, M) := Iff.rfl
end
theorem wp_forL {gs : Gd} {t : Tg} {g : SF} {Q : Fl × Hd → Prop} {ds : List D} (P : Nat → Ev → Hd → Prop)
    (hs : ∀ i d r M, ds[i]? = some d → P i r M → Still gs M ∧ ∃ r1, t.put d r = some r1 ∧ Wp (g r1 M) (lpQ (P (i + 1)) Q))
    (hd : ∀ r M, P ds.length r M → Still gs M ∧ Q (.nx r, M)) {r : Ev} {M : Hd} (h0 : P 0 r M) : Wp (forL gs t g ds r M) Q := by
  have key : ∀ n i r M, ds.length - i = n → i ≤ ds.length → P i r M → Wp (forL gs t g (ds.drop i) r M) Q := by
    intro n
    induction n with
    | zero =>
      intro i r M hn hi p
      have : i = ds.length := by omega
      subst this
      obtain ⟨a, b⟩ := hd r M p
      rw [List.drop_length]
      unfold forL
      rw [if_pos a]
      exact wp_some.mpr b
    | succ n ih =>
      intro i r M hn hi p
      have hlt : i < ds.length := by omega
      have hdr : ds.drop i = ds[i] :: ds.drop (i + 1) := List.drop_eq_getElem_cons hlt
      obtain ⟨a, r1, e, o, e2, q⟩ := hs i ds[i] r M (List.getElem?_eq_getElem hlt) p
      rw [hdr]
      unfold forL
      rw [if_pos a, e]
      dsimp only
      rw [e2]
      obtain ⟨fl, M2⟩ := o
      cases fl with
      | nx r2 => exact ih (i + 1) r2 M2 (by omega) hlt q
      | ct r2 => exact ih (i + 1) r2 M2 (by omega) hlt q
      | bk r2 => exact wp_some.mpr q
      | rt d => exact wp_some.mpr q
      | xx c r2 => exact wp_some.mpr q
  exact key ds.length 0 r M (by omega) (Nat.zero_le _) h0
theorem wp_while {t : TF} {g : SF} {Q : Fl × Hd → Prop} {r : Ev} {M : Hd} {n : Nat} (P : Nat → Ev → Hd → Prop)
    (hs : ∀ n r M, P n r M → Wp (t r M) fun o => match o with
      | .ok b M1 => (b = false → Q (.nx r, M1)) ∧ (b = true → Wp (g r M1) (lpQ (fun r2 M2 => ∃ k, k < n ∧ P k r2 M2) Q))
      | .er _ _ => False) (h0 : P n r M) : Wp (sWhile t g r M) Q := by
  refine while_rule P (fun n r M p => ?_) n r M h0
  obtain ⟨o, e, q⟩ := hs n r M p
  cases o with
  | er c M1 => exact q.elim
  | ok b M1 =>
    cases b with
    | false => exact .inl ⟨M1, e, q.1 rfl⟩
    | true =>
      obtain ⟨o, e2, q2⟩ := q.2 rfl
      refine .inr ⟨M1, o, e, e2, ?_⟩
      obtain ⟨fl, M2⟩ := o
      cases fl <;> exact q2
/-- a comprehension, by a word of the turn, the list so far, the heap -/
theorem wp_lcL {gs : Gd} {n : Nat} {t : Tg} {c : TF} {f : EF} {r : Ev} {Q : Hd → Prop} {ds : List D} (P : Nat → Hd → Prop)
    (hs : ∀ i d M, ds[i]? = some d → P i M → Still gs M ∧ ∃ r1, t.put d r = some r1 ∧ Wp (c r1 M) fun o => match o with
      | .ok b M1 => (b = false → P (i + 1) M1) ∧ (b = true → Wp (f r1 M1) fun o => match o with
        | .ok x M2 => ∃ acc, M2[n]? = some (.lst acc) ∧ acc.length < 16777216 ∧ P (i + 1) (M2.set n (.lst (acc ++ [x])))
        | .er _ _ => False)
      | .er _ _ => False)
    (hd : ∀ M, P ds.length M → Still gs M ∧ Q M) {M : Hd} (h0 : P 0 M) : Wp (lcL gs n t c f r ds M) Q := by
  have key : ∀ k i M, ds.length - i = k → i ≤ ds.length → P i M → Wp (lcL gs n t c f r (ds.drop i) M) Q := by
    intro k
    induction k with
    | zero =>
      intro i M hn hi p
      have : i = ds.length := by omega
      subst this
      obtain ⟨a, b⟩ := hd M p
      rw [List.drop_length]
      unfold lcL
      rw [if_pos a]
      exact wp_some.mpr b
    | succ k ih =>
      intro i M hn hi p
      have hlt : i < ds.length := by omega
      have hdr : ds.drop i = ds[i] :: ds.drop (i + 1) := List.drop_eq_getElem_cons hlt
      obtain ⟨a, r1, e, o, e2, q⟩ := hs i ds[i] M (List.getElem?_eq_getElem hlt) p
      rw [hdr]
      unfold lcL
      rw [if_pos a, e]
      dsimp only
      rw [e2]
      cases o with
      | er c M1 => exact q.elim
      | ok b M1 =>
        cases b with
        | false => exact ih (i + 1) M1 (by omega) hlt (q.1 rfl)
        | true =>
          obtain ⟨o, e3, q3⟩ := q.2 rfl
          dsimp only
          rw [e3]
          cases o with
          | er c M2 => exact q3.elim
          | ok x M2 =>
            obtain ⟨acc, e4, hl, p'⟩ := q3
            dsimp only
            rw [e4]
            dsimp only
            rw [if_pos hl]
            exact ih (i + 1) _ (by omega) hlt p'
  exact key ds.length 0 M (by omega) (Nat.zero_le _) h0
theorem wp_eLc {it : IF} {t : Tg} {c : TF} {f : EF} {own : List Nat} {r : Ev} {M : Hd} {Q : Rs D → Prop} (h : Wp (it r M) fun o => match o with
    | .ok p M1 => Wp (lcL p.2 M1.length t c f (wip r own) p.1 (M1 ++ [.lst []])) fun M2 => Q (.ok (.ref M1.length) M2)
    | .er c M1 => Q (.er c M1)) : Wp (eLc it t c f own r M) Q := by
  unfold eLc
  rw [wp_bnd]
  refine h.imp ?_
  intro o
  cases o with
  | er c M1 => exact id
  | ok p M1 =>
    rintro ⟨M2, e, q⟩
    dsimp only
    rw [e]
    exact wp_some.mpr q
theorem ints_get {lo : Int} {n i : Nat} {d : D} (h : (intsD lo n)[i]? = some d) : i < n ∧ d = .int (lo + (i : Int)) := by
  unfold intsD at h
  rw [List.getElem?_map] at h
  by_cases hi : i < n
  · rw [List.getElem?_range hi] at h
    exact ⟨hi, (Option.some.inj h).symm⟩
  · rw [List.getElem?_eq_none (by simpa using hi)] at h
    cases h
@[simp] theorem ints_length (lo : Int) (n : Nat) : (intsD lo n).length = n := by unfold intsD; simp
end DI

end

section
set_option Elab.async false
set_option linter.all false
set_option maxRecDepth 100000
set_option maxHeartbeats 4000000
namespace G
open PySem PySem.Spec PyProof.Rows L2 DI
abbrev N_is_integer : List Str := ["value"]
abbrev P_is_integer : List Str := ["value"]
theorem sc_is_integer : FnScope N_is_integer P_is_integer (defScope s_is_integer) := ⟨rfl, rfl, rfl, by decide +kernel, rfl, by decide +kernel, by decide +kernel⟩
noncomputable def g_is_integer : SF := (sRet (eAnd (eUn (isiG .int) (eVar 0)) (eNot (eUn (isiG .bl) (eVar 0)))))
noncomputable def m_is_integer : List D → Hd → Option (Rs D) := mir N_is_integer.length P_is_integer.length g_is_integer
theorem w_is_integer {P : Program} {w : World} {K : PySem.W.Frag} {mg : Str → Option Value} {base : Heap} {f : Addr} {fd : FuncData} (F : FunD K "is_integer" "is_integer" (defArgs s_is_integer) (defBody s_is_integer) (defScope s_is_integer) [] [] f fd) (b_isinstance : mg "isinstance" = none) (b_int : mg "int" = none) (b_bool : mg "bool" = none) : FnOk P w K mg base (L2.CX P w) 1 f fd P_is_integer (spD K mg 1 m_is_integer) := by
  refine fn_mk (k := 0) (g := g_is_integer) F sc_is_integer fun cdv A outer s H E hr => ?_
  have nd := sc_is_integer.nd
  have tk : Takes (cxOf (L2.CX P w) P w K mg base N_is_integer "is_integer" (defScope s_is_integer) f cdv A outer s H E) (fun cls d _ H => E cls d H) := takes_of rfl rfl rfl rfl
  have po : PassesOwn (model P w) (cxOf (L2.CX P w) P w K mg base N_is_integer "is_integer" (defScope s_is_integer) f cdv A outer s H E).A (cxOf (L2.CX P w) P w K mg base N_is_integer "is_integer" (defScope s_is_integer) f cdv A outer s H E).env (cxOf (L2.CX P w) P w K mg base N_is_integer "is_integer" (defScope s_is_integer) f cdv A outer s H E).xe := passes_of rfl
  exact (dss_one (ds_ret (de_and (de_isi .int (de_var 0) b_isinstance b_int PyProof.Rows.boot_int) (de_andE (de_not (de_isi .bl (de_var 0) b_isinstance b_bool PyProof.Rows.boot_bool))))))
theorem d_is_integer {P : Program} {w : World} {K : PySem.W.Frag} {mg : Str → Option Value} {base : Heap} {f : Addr} {fd : FuncData} (F : FunD K "is_integer" "is_integer" (defArgs s_is_integer) (defBody s_is_integer) (defScope s_is_integer) [] [] f fd) (hmg : mg "is_integer" = some (.ref f)) (b_isinstance : mg "isinstance" = none) (b_int : mg "int" = none) (b_bool : mg "bool" = none) : Dfn P w K mg base 1 "is_integer" 1 m_is_integer :=
  dfn_of F hmg (FunD.bindsN F fun _ _ _ _ _ _ us hl => match us, hl with | [_], _ => rfl) (w_is_integer F b_isinstance b_int b_bool)

abbrev N_is_number : List Str := ["value", "modulus"]
abbrev P_is_number : List Str := ["value", "modulus"]
theorem sc_is_number : FnScope N_is_number P_is_number (defScope s_is_number) := ⟨rfl, rfl, rfl, by decide +kernel, rfl, by decide +kernel, by decide +kernel⟩
noncomputable def g_is_number : SF := (sRet (eAnd (eCall m_is_integer (aCons (eVar 0) aNil)) (eChain leG ltG (eC (.int 0)) (eVar 0) (eVar 1))))
noncomputable def m_is_number : List D → Hd → Option (Rs D) := mir N_is_number.length P_is_number.length g_is_number
theorem w_is_number {P : Program} {w : World} {K : PySem.W.Frag} {mg : Str → Option Value} {base : Heap} {f : Addr} {fd : FuncData} (F : FunD K "is_number" "is_number" (defArgs s_is_number) (defBody s_is_number) (defScope s_is_number) [] [] f fd) (F_is_integer : Dfn P w K mg base 1 "is_integer" 1 m_is_integer) : FnOk P w K mg base (L2.CX P w) 2 f fd P_is_number (spD K mg 2 m_is_number) := by
  refine fn_mk (k := 1) (g := g_is_number) F sc_is_number fun cdv A outer s H E hr => ?_
  have nd := sc_is_number.nd
  have tk : Takes (cxOf (L2.CX P w) P w K mg base N_is_number "is_number" (defScope s_is_number) f cdv A outer s H E) (fun cls d _ H => E cls d H) := takes_of rfl rfl rfl rfl
  have po : PassesOwn (model P w) (cxOf (L2.CX P w) P w K mg base N_is_number "is_number" (defScope s_is_number) f cdv A outer s H E).A (cxOf (L2.CX P w) P w K mg base N_is_number "is_number" (defScope s_is_number) f cdv A outer s H E).env (cxOf (L2.CX P w) P w K mg base N_is_number "is_number" (defScope s_is_number) f cdv A outer s H E).xe := passes_of rfl
  exact (dss_one (ds_ret (de_and (de_call (F_is_integer.mono (by decide)) tk hr (da_cons (de_var 0) da_nil)) (de_andE (de_chain op_le od_le op_lt od_lt de_int (de_var 0) (de_var 1))))))
theorem d_is_number {P : Program} {w : World} {K : PySem.W.Frag} {mg : Str → Option Value} {base : Heap} {f : Addr} {fd : FuncData} (F : FunD K "is_number" "is_number" (defArgs s_is_number) (defBody s_is_number) (defScope s_is_number) [] [] f fd) (hmg : mg "is_number" = some (.ref f)) (F_is_integer : Dfn P w K mg base 1 "is_integer" 1 m_is_integer) : Dfn P w K mg base 2 "is_number" 2 m_is_number :=
  dfn_of F hmg (FunD.bindsN F fun _ _ _ _ _ _ us hl => match us, hl with | [_, _], _ => rfl) (w_is_number F F_is_integer)

abbrev N_is_factor : List Str := ["factor", "target", "cells", "inputs"]
abbrev P_is_factor : List Str := ["factor", "target", "cells", "inputs"]
theorem sc_is_factor : FnScope N_is_factor P_is_factor (defScope s_is_factor) := ⟨rfl, rfl, rfl, by decide +kernel, rfl, by decide +kernel, by decide +kernel⟩
noncomputable def g_is_factor : SF := (sSeq (sIf (tOr (tNot (tTru (eUn (isiG .tup) (eVar 0)))) (tVal (eOp neG (eUn lenD (eVar 0)) (eC (.int 2))))) (sRet (eC (.bl false))) sNil)
 (sSeq (sIf (tVal (eOp eqG (eOp ixG (eVar 0) (eC (.int 0))) (eC (.str "cell")))) (sRet (eAnd (eCall m_is_number (aCons (eOp ixG (eVar 0) (eC (.int 1))) (aCons (eVar 2) aNil))) (eOp neG (eOp ixG (eVar 0) (eC (.int 1))) (eVar 1)))) sNil)
 (sRet (eAnd (eOp eqG (eOp ixG (eVar 0) (eC (.int 0))) (eC (.str "input"))) (eCall m_is_number (aCons (eOp ixG (eVar 0) (eC (.int 1))) (aCons (eVar 3) aNil)))))))
noncomputable def m_is_factor : List D → Hd → Option (Rs D) := mir N_is_factor.length P_is_factor.length g_is_factor
theorem w_is_factor {P : Program} {w : World} {K : PySem.W.Frag} {mg : Str → Option Value} {base : Heap} {f : Addr} {fd : FuncData} (F : FunD K "is_factor" "is_factor" (defArgs s_is_factor) (defBody s_is_factor) (defScope s_is_factor) [] [] f fd) (b_isinstance : mg "isinstance" = none) (b_tuple : mg "tuple" = none) (b_len : mg "len" = none) (F_is_number : Dfn P w K mg base 2 "is_number" 2 m_is_number) : FnOk P w K mg base (L2.CX P w) 3 f fd P_is_factor (spD K mg 4 m_is_factor) := by
  refine fn_mk (k := 2) (g := g_is_factor) F sc_is_factor fun cdv A outer s H E hr => ?_
  have nd := sc_is_factor.nd
  have tk : Takes (cxOf (L2.CX P w) P w K mg base N_is_factor "is_factor" (defScope s_is_factor) f cdv A outer s H E) (fun cls d _ H => E cls d H) := takes_of rfl rfl rfl rfl
  have po : PassesOwn (model P w) (cxOf (L2.CX P w) P w K mg base N_is_factor "is_factor" (defScope s_is_factor) f cdv A outer s H E).A (cxOf (L2.CX P w) P w K mg base N_is_factor "is_factor" (defScope s_is_factor) f cdv A outer s H E).env (cxOf (L2.CX P w) P w K mg base N_is_factor "is_factor" (defScope s_is_factor) f cdv A outer s H E).xe := passes_of rfl
  exact (dss_cons (ds_if (dt_w (dw_or (dt_not (dt_tru (de_isi .tup (de_var 0) b_isinstance b_tuple PyProof.Rows.boot_tuple))) (dw_or1 (dt_cmp (op_neP hr.units) od_ne (de_len (de_var 0) b_len) de_int)))) (dss_one (ds_ret de_bl)) dss_nil)
 (dss_cons (ds_if (dt_cmp (op_eqP hr.units) od_eq (de_ix (de_var 0) de_int) de_str) (dss_one (ds_ret (de_and (de_call (F_is_number.mono (by decide)) tk hr (da_cons (de_ix (de_var 0) de_int) (da_cons (de_var 2) da_nil))) (de_andE (de_cmp (op_neP hr.units) od_ne (de_ix (de_var 0) de_int) (de_var 1)))))) dss_nil)
 (dss_one (ds_ret (de_and (de_cmp (op_eqP hr.units) od_eq (de_ix (de_var 0) de_int) de_str) (de_andE (de_call (F_is_number.mono (by decide)) tk hr (da_cons (de_ix (de_var 0) de_int) (da_cons (de_var 3) da_nil)))))))))
theorem d_is_factor {P : Program} {w : World} {K : PySem.W.Frag} {mg : Str → Option Value} {base : Heap} {f : Addr} {fd : FuncData} (F : FunD K "is_factor" "is_factor" (defArgs s_is_factor) (defBody s_is_factor) (defScope s_is_factor) [] [] f fd) (hmg : mg "is_factor" = some (.ref f)) (b_isinstance : mg "isinstance" = none) (b_tuple : mg "tuple" = none) (b_len : mg "len" = none) (F_is_number : Dfn P w K mg base 2 "is_number" 2 m_is_number) : Dfn P w K mg base 3 "is_factor" 4 m_is_factor :=
  dfn_of F hmg (FunD.bindsN F fun _ _ _ _ _ _ us hl => match us, hl with | [_, _, _, _], _ => rfl) (w_is_factor F b_isinstance b_tuple b_len F_is_number)

abbrev N_is_add : List Str := ["step", "modulus", "cells", "inputs", "_", "target", "coefficient", "factors", "factor"]
abbrev P_is_add : List Str := ["step", "modulus", "cells", "inputs"]
theorem sc_is_add : FnScope N_is_add P_is_add (defScope s_is_add) := ⟨rfl, rfl, rfl, by decide +kernel, rfl, by decide +kernel, by decide +kernel⟩
noncomputable def g_is_add : SF := (sSeq (sAsgT [4, 5, 6, 7] (eVar 0))
 (sSeq (sIf (tOr (tNot (tTru (eCall m_is_number (aCons (eVar 5) (aCons (eVar 2) aNil))))) (tNot (tTru (eCall m_is_number (aCons (eVar 6) (aCons (eVar 1) aNil)))))) (sRet (eC (.bl false))) sNil)
 (sSeq (sIf (tOr (tNot (tTru (eUn (isiG .tup) (eVar 7)))) (tVal (eOp gtG (eUn lenD (eVar 7)) (eC (.int 3))))) (sRet (eC (.bl false))) sNil)
 (sSeq (sFor (seqI (eVar 7)) (.nm 8) (sIf (tNot (tTru (eCall m_is_factor (aCons (eVar 8) (aCons (eVar 5) (aCons (eVar 2) (aCons (eVar 3) aNil))))))) (sRet (eC (.bl false))) sNil))
 (sRet (eC (.bl true)))))))
noncomputable def m_is_add : List D → Hd → Option (Rs D) := mir N_is_add.length P_is_add.length g_is_add
theorem w_is_add {P : Program} {w : World} {K : PySem.W.Frag} {mg : Str → Option Value} {base : Heap} {f : Addr} {fd : FuncData} (F : FunD K "is_add" "is_add" (defArgs s_is_add) (defBody s_is_add) (defScope s_is_add) [] [] f fd) (b_isinstance : mg "isinstance" = none) (b_tuple : mg "tuple" = none) (b_len : mg "len" = none) (c_FACTORS : ∃ u, mg "FACTORS" = some u ∧ RelV (.int  3) u) (F_is_number : Dfn P w K mg base 2 "is_number" 2 m_is_number) (F_is_factor : Dfn P w K mg base 3 "is_factor" 4 m_is_factor) : FnOk P w K mg base (L2.CX P w) 4 f fd P_is_add (spD K mg 4 m_is_add) := by
  refine fn_mk (k := 3) (g := g_is_add) F sc_is_add fun cdv A outer s H E hr => ?_
  have nd := sc_is_add.nd
  have tk : Takes (cxOf (L2.CX P w) P w K mg base N_is_add "is_add" (defScope s_is_add) f cdv A outer s H E) (fun cls d _ H => E cls d H) := takes_of rfl rfl rfl rfl
  have po : PassesOwn (model P w) (cxOf (L2.CX P w) P w K mg base N_is_add "is_add" (defScope s_is_add) f cdv A outer s H E).A (cxOf (L2.CX P w) P w K mg base N_is_add "is_add" (defScope s_is_add) f cdv A outer s H E).env (cxOf (L2.CX P w) P w K mg base N_is_add "is_add" (defScope s_is_add) f cdv A outer s H E).xe := passes_of rfl
  exact (dss_cons (ds_asgT (de_var 0) (dg_tp rfl (dgs_cons 4 nd (dgs_cons 5 nd (dgs_cons 6 nd (dgs_cons 7 nd dgs_nil))))))
 (dss_cons (ds_if (dt_w (dw_or (dt_not (dt_tru (de_call (F_is_number.mono (by decide)) tk hr (da_cons (de_var 5) (da_cons (de_var 2) da_nil))))) (dw_or1 (dt_not (dt_tru (de_call (F_is_number.mono (by decide)) tk hr (da_cons (de_var 6) (da_cons (de_var 1) da_nil)))))))) (dss_one (ds_ret de_bl)) dss_nil)
 (dss_cons (ds_if (dt_w (dw_or (dt_not (dt_tru (de_isi .tup (de_var 7) b_isinstance b_tuple PyProof.Rows.boot_tuple))) (dw_or1 (dt_cmp op_gt od_gt (de_len (de_var 7) b_len) (de_gi c_FACTORS))))) (dss_one (ds_ret de_bl)) dss_nil)
 (dss_cons (ds_for po rfl (di_seq (de_var 7)) (dg_nm 8 nd) (dss_one (ds_if (dt_not (dt_tru (de_call (F_is_factor.mono (by decide)) tk hr (da_cons (de_var 8) (da_cons (de_var 5) (da_cons (de_var 2) (da_cons (de_var 3) da_nil))))))) (dss_one (ds_ret de_bl)) dss_nil)))
 (dss_one (ds_ret de_bl))))))
theorem d_is_add {P : Program} {w : World} {K : PySem.W.Frag} {mg : Str → Option Value} {base : Heap} {f : Addr} {fd : FuncData} (F : FunD K "is_add" "is_add" (defArgs s_is_add) (defBody s_is_add) (defScope s_is_add) [] [] f fd) (hmg : mg "is_add" = some (.ref f)) (b_isinstance : mg "isinstance" = none) (b_tuple : mg "tuple" = none) (b_len : mg "len" = none) (c_FACTORS : ∃ u, mg "FACTORS" = some u ∧ RelV (.int  3) u) (F_is_number : Dfn P w K mg base 2 "is_number" 2 m_is_number) (F_is_factor : Dfn P w K mg base 3 "is_factor" 4 m_is_factor) : Dfn P w K mg base 4 "is_add" 4 m_is_add :=
  dfn_of F hmg (FunD.bindsN F fun _ _ _ _ _ _ us hl => match us, hl with | [_, _, _, _], _ => rfl) (w_is_add F b_isinstance b_tuple b_len c_FACTORS F_is_number F_is_factor)

abbrev N_is_table : List Str := ["table", "modulus", "row", "entry"]
abbrev P_is_table : List Str := ["table", "modulus"]
theorem sc_is_table : FnScope N_is_table P_is_table (defScope s_is_table) := ⟨rfl, rfl, rfl, by decide +kernel, rfl, by decide +kernel, by decide +kernel⟩
noncomputable def g_is_table : SF := (sSeq (sIf (tOr (tNot (tTru (eUn (isiG .tup) (eVar 0)))) (tNot (tVal (eChain leG leG (eC (.int 1)) (eUn lenD (eVar 0)) (eVar 1))))) (sRet (eC (.bl false))) sNil)
 (sSeq (sFor (seqI (eVar 0)) (.nm 2) (sSeq (sIf (tOr (tNot (tTru (eUn (isiG .tup) (eVar 2)))) (tVal (eOp neG (eUn lenD (eVar 2)) (eUn lenD (eVar 0))))) (sRet (eC (.bl false))) sNil)
 (sFor (seqI (eVar 2)) (.nm 3) (sIf (tNot (tTru (eCall m_is_number (aCons (eVar 3) (aCons (eVar 1) aNil))))) (sRet (eC (.bl false))) sNil))))
 (sRet (eC (.bl true)))))
noncomputable def m_is_table : List D → Hd → Option (Rs D) := mir N_is_table.length P_is_table.length g_is_table
theorem w_is_table {P : Program} {w : World} {K : PySem.W.Frag} {mg : Str → Option Value} {base : Heap} {f : Addr} {fd : FuncData} (F : FunD K "is_table" "is_table" (defArgs s_is_table) (defBody s_is_table) (defScope s_is_table) [] [] f fd) (b_isinstance : mg "isinstance" = none) (b_tuple : mg "tuple" = none) (b_len : mg "len" = none) (F_is_number : Dfn P w K mg base 2 "is_number" 2 m_is_number) : FnOk P w K mg base (L2.CX P w) 3 f fd P_is_table (spD K mg 2 m_is_table) := by
  refine fn_mk (k := 2) (g := g_is_table) F sc_is_table fun cdv A outer s H E hr => ?_
  have nd := sc_is_table.nd
  have tk : Takes (cxOf (L2.CX P w) P w K mg base N_is_table "is_table" (defScope s_is_table) f cdv A outer s H E) (fun cls d _ H => E cls d H) := takes_of rfl rfl rfl rfl
  have po : PassesOwn (model P w) (cxOf (L2.CX P w) P w K mg base N_is_table "is_table" (defScope s_is_table) f cdv A outer s H E).A (cxOf (L2.CX P w) P w K mg base N_is_table "is_table" (defScope s_is_table) f cdv A outer s H E).env (cxOf (L2.CX P w) P w K mg base N_is_table "is_table" (defScope s_is_table) f cdv A outer s H E).xe := passes_of rfl
  exact (dss_cons (ds_if (dt_w (dw_or (dt_not (dt_tru (de_isi .tup (de_var 0) b_isinstance b_tuple PyProof.Rows.boot_tuple))) (dw_or1 (dt_not (dt_chain op_le od_le op_le od_le de_int (de_len (de_var 0) b_len) (de_var 1)))))) (dss_one (ds_ret de_bl)) dss_nil)
 (dss_cons (ds_for po rfl (di_seq (de_var 0)) (dg_nm 2 nd) (dss_cons (ds_if (dt_w (dw_or (dt_not (dt_tru (de_isi .tup (de_var 2) b_isinstance b_tuple PyProof.Rows.boot_tuple))) (dw_or1 (dt_cmp (op_neP hr.units) od_ne (de_len (de_var 2) b_len) (de_len (de_var 0) b_len))))) (dss_one (ds_ret de_bl)) dss_nil)
 (dss_one (ds_for po rfl (di_seq (de_var 2)) (dg_nm 3 nd) (dss_one (ds_if (dt_not (dt_tru (de_call (F_is_number.mono (by decide)) tk hr (da_cons (de_var 3) (da_cons (de_var 1) da_nil))))) (dss_one (ds_ret de_bl)) dss_nil))))))
 (dss_one (ds_ret de_bl))))
theorem d_is_table {P : Program} {w : World} {K : PySem.W.Frag} {mg : Str → Option Value} {base : Heap} {f : Addr} {fd : FuncData} (F : FunD K "is_table" "is_table" (defArgs s_is_table) (defBody s_is_table) (defScope s_is_table) [] [] f fd) (hmg : mg "is_table" = some (.ref f)) (b_isinstance : mg "isinstance" = none) (b_tuple : mg "tuple" = none) (b_len : mg "len" = none) (F_is_number : Dfn P w K mg base 2 "is_number" 2 m_is_number) : Dfn P w K mg base 3 "is_table" 2 m_is_table :=
  dfn_of F hmg (FunD.bindsN F fun _ _ _ _ _ _ us hl => match us, hl with | [_, _], _ => rfl) (w_is_table F b_isinstance b_tuple b_len F_is_number)

abbrev N_is_look : List Str := ["step", "modulus", "cells", "_", "target", "sign", "table", "a", "b", "cell"]
abbrev P_is_look : List Str := ["step", "modulus", "cells"]
theorem sc_is_look : FnScope N_is_look P_is_look (defScope s_is_look) := ⟨rfl, rfl, rfl, by decide +kernel, rfl, by decide +kernel, by decide +kernel⟩
noncomputable def g_is_look : SF := (sSeq (sAsgT [3, 4, 5, 6, 7, 8] (eVar 0))
 (sSeq (sFor (seqI (eTup (aCons (eVar 4) (aCons (eVar 7) (aCons (eVar 8) aNil))))) (.nm 9) (sIf (tNot (tTru (eCall m_is_number (aCons (eVar 9) (aCons (eVar 2) aNil))))) (sRet (eC (.bl false))) sNil))
 (sSeq (sIf (tOr (tVal (eOp eqG (eVar 4) (eVar 7))) (tOr (tVal (eOp eqG (eVar 4) (eVar 8))) (tOr (tVal (eOp eqG (eVar 7) (eVar 8))) (tNot (tTru (eCall m_is_integer (aCons (eVar 5) aNil))))))) (sRet (eC (.bl false))) sNil)
 (sSeq (sIf (tAnd (tVal (eOp neG (eVar 5) (eC (.int 1)))) (tVal (eOp neG (eVar 5) (eOp subG (eVar 1) (eC (.int 1)))))) (sRet (eC (.bl false))) sNil)
 (sRet (eCall m_is_table (aCons (eVar 6) (aCons (eVar 1) aNil))))))))
noncomputable def m_is_look : List D → Hd → Option (Rs D) := mir N_is_look.length P_is_look.length g_is_look
theorem w_is_look {P : Program} {w : World} {K : PySem.W.Frag} {mg : Str → Option Value} {base : Heap} {f : Addr} {fd : FuncData} (F : FunD K "is_look" "is_look" (defArgs s_is_look) (defBody s_is_look) (defScope s_is_look) [] [] f fd) (F_is_number : Dfn P w K mg base 2 "is_number" 2 m_is_number) (F_is_integer : Dfn P w K mg base 1 "is_integer" 1 m_is_integer) (F_is_table : Dfn P w K mg base 3 "is_table" 2 m_is_table) : FnOk P w K mg base (L2.CX P w) 4 f fd P_is_look (spD K mg 3 m_is_look) := by
  refine fn_mk (k := 3) (g := g_is_look) F sc_is_look fun cdv A outer s H E hr => ?_
  have nd := sc_is_look.nd
  have tk : Takes (cxOf (L2.CX P w) P w K mg base N_is_look "is_look" (defScope s_is_look) f cdv A outer s H E) (fun cls d _ H => E cls d H) := takes_of rfl rfl rfl rfl
  have po : PassesOwn (model P w) (cxOf (L2.CX P w) P w K mg base N_is_look "is_look" (defScope s_is_look) f cdv A outer s H E).A (cxOf (L2.CX P w) P w K mg base N_is_look "is_look" (defScope s_is_look) f cdv A outer s H E).env (cxOf (L2.CX P w) P w K mg base N_is_look "is_look" (defScope s_is_look) f cdv A outer s H E).xe := passes_of rfl
  exact (dss_cons (ds_asgT (de_var 0) (dg_tp rfl (dgs_cons 3 nd (dgs_cons 4 nd (dgs_cons 5 nd (dgs_cons 6 nd (dgs_cons 7 nd (dgs_cons 8 nd dgs_nil))))))))
 (dss_cons (ds_for po rfl (di_seq (de_tup (da_cons (de_var 4) (da_cons (de_var 7) (da_cons (de_var 8) da_nil))))) (dg_nm 9 nd) (dss_one (ds_if (dt_not (dt_tru (de_call (F_is_number.mono (by decide)) tk hr (da_cons (de_var 9) (da_cons (de_var 2) da_nil))))) (dss_one (ds_ret de_bl)) dss_nil)))
 (dss_cons (ds_if (dt_w (dw_or (dt_cmp (op_eqP hr.units) od_eq (de_var 4) (de_var 7)) (dw_or (dt_cmp (op_eqP hr.units) od_eq (de_var 4) (de_var 8)) (dw_or (dt_cmp (op_eqP hr.units) od_eq (de_var 7) (de_var 8)) (dw_or1 (dt_not (dt_tru (de_call (F_is_integer.mono (by decide)) tk hr (da_cons (de_var 5) da_nil))))))))) (dss_one (ds_ret de_bl)) dss_nil)
 (dss_cons (ds_if (dt_w (dw_and (dt_cmp (op_neP hr.units) od_ne (de_var 5) de_int) (dw_and1 (dt_cmp (op_neP hr.units) od_ne (de_var 5) (de_op op_sub od_sub (de_var 1) de_int))))) (dss_one (ds_ret de_bl)) dss_nil)
 (dss_one (ds_ret (de_call (F_is_table.mono (by decide)) tk hr (da_cons (de_var 6) (da_cons (de_var 1) da_nil)))))))))
theorem d_is_look {P : Program} {w : World} {K : PySem.W.Frag} {mg : Str → Option Value} {base : Heap} {f : Addr} {fd : FuncData} (F : FunD K "is_look" "is_look" (defArgs s_is_look) (defBody s_is_look) (defScope s_is_look) [] [] f fd) (hmg : mg "is_look" = some (.ref f)) (F_is_number : Dfn P w K mg base 2 "is_number" 2 m_is_number) (F_is_integer : Dfn P w K mg base 1 "is_integer" 1 m_is_integer) (F_is_table : Dfn P w K mg base 3 "is_table" 2 m_is_table) : Dfn P w K mg base 4 "is_look" 3 m_is_look :=
  dfn_of F hmg (FunD.bindsN F fun _ _ _ _ _ _ us hl => match us, hl with | [_, _, _], _ => rfl) (w_is_look F F_is_number F_is_integer F_is_table)

abbrev N_inverse_of : List Str := ["n", "modulus", "rest", "other", "mine", "yours", "times"]
abbrev P_inverse_of : List Str := ["n", "modulus"]
theorem sc_inverse_of : FnScope N_inverse_of P_inverse_of (defScope s_inverse_of) := ⟨rfl, rfl, rfl, by decide +kernel, rfl, by decide +kernel, by decide +kernel⟩
noncomputable def g_inverse_of : SF := (sSeq (sPar 2 3 (eOp modG (eVar 0) (eVar 1)) (eVar 1))
 (sSeq (sAsgT [4, 5] (eTup (aCons (eC (.int 1)) (aCons (eC (.int 0)) aNil))))
 (sSeq (sWhile (tVal (eOp gtG (eVar 3) (eC (.int 0)))) (sSeq (sAsg 6 (eOp divG (eVar 2) (eVar 3)))
 (sSeq (sPar 2 3 (eVar 3) (eOp subG (eVar 2) (eOp mulG (eVar 6) (eVar 3))))
 (sPar 4 5 (eVar 5) (eOp subG (eVar 4) (eOp mulG (eVar 6) (eVar 5)))))))
 (sSeq (sIf (tVal (eOp neG (eVar 2) (eC (.int 1)))) (sRet (eC .non)) sNil)
 (sRet (eOp modG (eVar 4) (eVar 1)))))))
noncomputable def m_inverse_of : List D → Hd → Option (Rs D) := mir N_inverse_of.length P_inverse_of.length g_inverse_of
theorem w_inverse_of {P : Program} {w : World} {K : PySem.W.Frag} {mg : Str → Option Value} {base : Heap} {f : Addr} {fd : FuncData} (F : FunD K "inverse_of" "inverse_of" (defArgs s_inverse_of) (defBody s_inverse_of) (defScope s_inverse_of) [] [] f fd) : FnOk P w K mg base (L2.CX P w) 1 f fd P_inverse_of (spD K mg 2 m_inverse_of) := by
  refine fn_mk (k := 0) (g := g_inverse_of) F sc_inverse_of fun cdv A outer s H E hr => ?_
  have nd := sc_inverse_of.nd
  have tk : Takes (cxOf (L2.CX P w) P w K mg base N_inverse_of "inverse_of" (defScope s_inverse_of) f cdv A outer s H E) (fun cls d _ H => E cls d H) := takes_of rfl rfl rfl rfl
  have po : PassesOwn (model P w) (cxOf (L2.CX P w) P w K mg base N_inverse_of "inverse_of" (defScope s_inverse_of) f cdv A outer s H E).A (cxOf (L2.CX P w) P w K mg base N_inverse_of "inverse_of" (defScope s_inverse_of) f cdv A outer s H E).env (cxOf (L2.CX P w) P w K mg base N_inverse_of "inverse_of" (defScope s_inverse_of) f cdv A outer s H E).xe := passes_of rfl
  exact (dss_cons (ds_par 2 3 rfl nd (de_op op_mod od_mod (de_var 0) (de_var 1)) (de_var 1))
 (dss_cons (ds_asgT (de_tup (da_cons de_int (da_cons de_int da_nil))) (dg_tp rfl (dgs_cons 4 nd (dgs_cons 5 nd dgs_nil))))
 (dss_cons (ds_while (hp := po) (dt_cmp op_gt od_gt (de_var 3) de_int) (dss_cons (ds_set 6 nd (de_op op_fdivW od_div (de_var 2) (de_var 3)))
 (dss_cons (ds_par 2 3 rfl nd (de_var 3) (de_op op_sub od_sub (de_var 2) (de_op op_mulD od_mul (de_var 6) (de_var 3))))
 (dss_one (ds_par 4 5 rfl nd (de_var 5) (de_op op_sub od_sub (de_var 4) (de_op op_mulD od_mul (de_var 6) (de_var 5))))))))
 (dss_cons (ds_if (dt_cmp (op_neP hr.units) od_ne (de_var 2) de_int) (dss_one (ds_ret de_non)) dss_nil)
 (dss_one (ds_ret (de_op op_mod od_mod (de_var 4) (de_var 1))))))))
theorem d_inverse_of {P : Program} {w : World} {K : PySem.W.Frag} {mg : Str → Option Value} {base : Heap} {f : Addr} {fd : FuncData} (F : FunD K "inverse_of" "inverse_of" (defArgs s_inverse_of) (defBody s_inverse_of) (defScope s_inverse_of) [] [] f fd) (hmg : mg "inverse_of" = some (.ref f)) : Dfn P w K mg base 1 "inverse_of" 2 m_inverse_of :=
  dfn_of F hmg (FunD.bindsN F fun _ _ _ _ _ _ us hl => match us, hl with | [_, _], _ => rfl) (w_inverse_of F)

abbrev N_is_step : List Str := ["step", "modulus", "cells", "inputs"]
abbrev P_is_step : List Str := ["step", "modulus", "cells", "inputs"]
theorem sc_is_step : FnScope N_is_step P_is_step (defScope s_is_step) := ⟨rfl, rfl, rfl, by decide +kernel, rfl, by decide +kernel, by decide +kernel⟩
noncomputable def g_is_step : SF := (sSeq (sIf (tOr (tNot (tTru (eUn (isiG .tup) (eVar 0)))) (tVal (eOp ltG (eUn lenD (eVar 0)) (eC (.int 3))))) (sRet (eC (.bl false))) sNil)
 (sSeq (sIf (tAnd (tVal (eOp eqG (eOp ixG (eVar 0) (eC (.int 0))) (eC (.str "add")))) (tVal (eOp eqG (eUn lenD (eVar 0)) (eC (.int 4))))) (sRet (eCall m_is_add (aCons (eVar 0) (aCons (eVar 1) (aCons (eVar 2) (aCons (eVar 3) aNil)))))) sNil)
 (sSeq (sIf (tAnd (tVal (eOp eqG (eOp ixG (eVar 0) (eC (.int 0))) (eC (.str "scale")))) (tVal (eOp eqG (eUn lenD (eVar 0)) (eC (.int 3))))) (sSeq (sIf (tOr (tNot (tTru (eCall m_is_number (aCons (eOp ixG (eVar 0) (eC (.int 1))) (aCons (eVar 2) aNil))))) (tNot (tTru (eCall m_is_number (aCons (eOp ixG (eVar 0) (eC (.int 2))) (aCons (eVar 1) aNil)))))) (sRet (eC (.bl false))) sNil)
 (sRet (isNN (eCall m_inverse_of (aCons (eOp ixG (eVar 0) (eC (.int 2))) (aCons (eVar 1) aNil)))))) sNil)
 (sSeq (sIf (tAnd (tVal (eOp eqG (eOp ixG (eVar 0) (eC (.int 0))) (eC (.str "swap")))) (tVal (eOp eqG (eUn lenD (eVar 0)) (eC (.int 3))))) (sSeq (sIf (tOr (tNot (tTru (eCall m_is_number (aCons (eOp ixG (eVar 0) (eC (.int 1))) (aCons (eVar 2) aNil))))) (tNot (tTru (eCall m_is_number (aCons (eOp ixG (eVar 0) (eC (.int 2))) (aCons (eVar 2) aNil)))))) (sRet (eC (.bl false))) sNil)
 (sRet (eOp neG (eOp ixG (eVar 0) (eC (.int 1))) (eOp ixG (eVar 0) (eC (.int 2)))))) sNil)
 (sRet (eAnd (eOp eqG (eOp ixG (eVar 0) (eC (.int 0))) (eC (.str "table"))) (eAnd (eOp eqG (eUn lenD (eVar 0)) (eC (.int 6))) (eCall m_is_look (aCons (eVar 0) (aCons (eVar 1) (aCons (eVar 2) aNil)))))))))))
noncomputable def m_is_step : List D → Hd → Option (Rs D) := mir N_is_step.length P_is_step.length g_is_step
theorem w_is_step {P : Program} {w : World} {K : PySem.W.Frag} {mg : Str → Option Value} {base : Heap} {f : Addr} {fd : FuncData} (F : FunD K "is_step" "is_step" (defArgs s_is_step) (defBody s_is_step) (defScope s_is_step) [] [] f fd) (b_isinstance : mg "isinstance" = none) (b_tuple : mg "tuple" = none) (b_len : mg "len" = none) (F_is_add : Dfn P w K mg base 4 "is_add" 4 m_is_add) (F_is_number : Dfn P w K mg base 2 "is_number" 2 m_is_number) (F_inverse_of : Dfn P w K mg base 1 "inverse_of" 2 m_inverse_of) (F_is_look : Dfn P w K mg base 4 "is_look" 3 m_is_look) : FnOk P w K mg base (L2.CX P w) 5 f fd P_is_step (spD K mg 4 m_is_step) := by
  refine fn_mk (k := 4) (g := g_is_step) F sc_is_step fun cdv A outer s H E hr => ?_
  have nd := sc_is_step.nd
  have tk : Takes (cxOf (L2.CX P w) P w K mg base N_is_step "is_step" (defScope s_is_step) f cdv A outer s H E) (fun cls d _ H => E cls d H) := takes_of rfl rfl rfl rfl
  have po : PassesOwn (model P w) (cxOf (L2.CX P w) P w K mg base N_is_step "is_step" (defScope s_is_step) f cdv A outer s H E).A (cxOf (L2.CX P w) P w K mg base N_is_step "is_step" (defScope s_is_step) f cdv A outer s H E).env (cxOf (L2.CX P w) P w K mg base N_is_step "is_step" (defScope s_is_step) f cdv A outer s H E).xe := passes_of rfl
  exact (dss_cons (ds_if (dt_w (dw_or (dt_not (dt_tru (de_isi .tup (de_var 0) b_isinstance b_tuple PyProof.Rows.boot_tuple))) (dw_or1 (dt_cmp op_lt od_lt (de_len (de_var 0) b_len) de_int)))) (dss_one (ds_ret de_bl)) dss_nil)
 (dss_cons (ds_if (dt_w (dw_and (dt_cmp (op_eqP hr.units) od_eq (de_ix (de_var 0) de_int) de_str) (dw_and1 (dt_cmp (op_eqP hr.units) od_eq (de_len (de_var 0) b_len) de_int)))) (dss_one (ds_ret (de_call (F_is_add.mono (by decide)) tk hr (da_cons (de_var 0) (da_cons (de_var 1) (da_cons (de_var 2) (da_cons (de_var 3) da_nil))))))) dss_nil)
 (dss_cons (ds_if (dt_w (dw_and (dt_cmp (op_eqP hr.units) od_eq (de_ix (de_var 0) de_int) de_str) (dw_and1 (dt_cmp (op_eqP hr.units) od_eq (de_len (de_var 0) b_len) de_int)))) (dss_cons (ds_if (dt_w (dw_or (dt_not (dt_tru (de_call (F_is_number.mono (by decide)) tk hr (da_cons (de_ix (de_var 0) de_int) (da_cons (de_var 2) da_nil))))) (dw_or1 (dt_not (dt_tru (de_call (F_is_number.mono (by decide)) tk hr (da_cons (de_ix (de_var 0) de_int) (da_cons (de_var 1) da_nil)))))))) (dss_one (ds_ret de_bl)) dss_nil)
 (dss_one (ds_ret (de_isNN (de_call (F_inverse_of.mono (by decide)) tk hr (da_cons (de_ix (de_var 0) de_int) (da_cons (de_var 1) da_nil))))))) dss_nil)
 (dss_cons (ds_if (dt_w (dw_and (dt_cmp (op_eqP hr.units) od_eq (de_ix (de_var 0) de_int) de_str) (dw_and1 (dt_cmp (op_eqP hr.units) od_eq (de_len (de_var 0) b_len) de_int)))) (dss_cons (ds_if (dt_w (dw_or (dt_not (dt_tru (de_call (F_is_number.mono (by decide)) tk hr (da_cons (de_ix (de_var 0) de_int) (da_cons (de_var 2) da_nil))))) (dw_or1 (dt_not (dt_tru (de_call (F_is_number.mono (by decide)) tk hr (da_cons (de_ix (de_var 0) de_int) (da_cons (de_var 2) da_nil)))))))) (dss_one (ds_ret de_bl)) dss_nil)
 (dss_one (ds_ret (de_cmp (op_neP hr.units) od_ne (de_ix (de_var 0) de_int) (de_ix (de_var 0) de_int))))) dss_nil)
 (dss_one (ds_ret (de_and (de_cmp (op_eqP hr.units) od_eq (de_ix (de_var 0) de_int) de_str) (de_and (de_cmp (op_eqP hr.units) od_eq (de_len (de_var 0) b_len) de_int) (de_andE (de_call (F_is_look.mono (by decide)) tk hr (da_cons (de_var 0) (da_cons (de_var 1) (da_cons (de_var 2) da_nil)))))))))))))
theorem d_is_step {P : Program} {w : World} {K : PySem.W.Frag} {mg : Str → Option Value} {base : Heap} {f : Addr} {fd : FuncData} (F : FunD K "is_step" "is_step" (defArgs s_is_step) (defBody s_is_step) (defScope s_is_step) [] [] f fd) (hmg : mg "is_step" = some (.ref f)) (b_isinstance : mg "isinstance" = none) (b_tuple : mg "tuple" = none) (b_len : mg "len" = none) (F_is_add : Dfn P w K mg base 4 "is_add" 4 m_is_add) (F_is_number : Dfn P w K mg base 2 "is_number" 2 m_is_number) (F_inverse_of : Dfn P w K mg base 1 "inverse_of" 2 m_inverse_of) (F_is_look : Dfn P w K mg base 4 "is_look" 3 m_is_look) : Dfn P w K mg base 5 "is_step" 4 m_is_step :=
  dfn_of F hmg (FunD.bindsN F fun _ _ _ _ _ _ us hl => match us, hl with | [_, _, _, _], _ => rfl) (w_is_step F b_isinstance b_tuple b_len F_is_add F_is_number F_inverse_of F_is_look)

abbrev N_is_prime : List Str := ["n", "divisor"]
abbrev P_is_prime : List Str := ["n"]
theorem sc_is_prime : FnScope N_is_prime P_is_prime (defScope s_is_prime) := ⟨rfl, rfl, rfl, by decide +kernel, rfl, by decide +kernel, by decide +kernel⟩
noncomputable def g_is_prime : SF := (sSeq (sIf (tVal (eOp ltG (eVar 0) (eC (.int 2)))) (sRet (eC (.bl false))) sNil)
 (sSeq (sIf (tVal (eOp eqG (eOp modG (eVar 0) (eC (.int 2))) (eC (.int 0)))) (sRet (eOp eqG (eVar 0) (eC (.int 2)))) sNil)
 (sSeq (sAsg 1 (eC (.int 3)))
 (sSeq (sWhile (tVal (eOp leG (eOp mulG (eVar 1) (eVar 1)) (eVar 0))) (sSeq (sIf (tVal (eOp eqG (eOp modG (eVar 0) (eVar 1)) (eC (.int 0)))) (sRet (eC (.bl false))) sNil)
 (sAug addIG 1 (eC (.int 2)))))
 (sRet (eC (.bl true)))))))
noncomputable def m_is_prime : List D → Hd → Option (Rs D) := mir N_is_prime.length P_is_prime.length g_is_prime
theorem w_is_prime {P : Program} {w : World} {K : PySem.W.Frag} {mg : Str → Option Value} {base : Heap} {f : Addr} {fd : FuncData} (F : FunD K "is_prime" "is_prime" (defArgs s_is_prime) (defBody s_is_prime) (defScope s_is_prime) [] [] f fd) : FnOk P w K mg base (L2.CX P w) 1 f fd P_is_prime (spD K mg 1 m_is_prime) := by
  refine fn_mk (k := 0) (g := g_is_prime) F sc_is_prime fun cdv A outer s H E hr => ?_
  have nd := sc_is_prime.nd
  have tk : Takes (cxOf (L2.CX P w) P w K mg base N_is_prime "is_prime" (defScope s_is_prime) f cdv A outer s H E) (fun cls d _ H => E cls d H) := takes_of rfl rfl rfl rfl
  have po : PassesOwn (model P w) (cxOf (L2.CX P w) P w K mg base N_is_prime "is_prime" (defScope s_is_prime) f cdv A outer s H E).A (cxOf (L2.CX P w) P w K mg base N_is_prime "is_prime" (defScope s_is_prime) f cdv A outer s H E).env (cxOf (L2.CX P w) P w K mg base N_is_prime "is_prime" (defScope s_is_prime) f cdv A outer s H E).xe := passes_of rfl
  exact (dss_cons (ds_if (dt_cmp op_lt od_lt (de_var 0) de_int) (dss_one (ds_ret de_bl)) dss_nil)
 (dss_cons (ds_if (dt_cmp (op_eqP hr.units) od_eq (de_op op_mod od_mod (de_var 0) de_int) de_int) (dss_one (ds_ret (de_cmp (op_eqP hr.units) od_eq (de_var 0) de_int))) dss_nil)
 (dss_cons (ds_set 1 nd de_int)
 (dss_cons (ds_while (hp := po) (dt_cmp op_le od_le (de_op op_mulD od_mul (de_var 1) (de_var 1)) (de_var 0)) (dss_cons (ds_if (dt_cmp (op_eqP hr.units) od_eq (de_op op_mod od_mod (de_var 0) (de_var 1)) de_int) (dss_one (ds_ret de_bl)) dss_nil)
 (dss_one (ds_aug 1 nd (ip_op iop_add) od_addI de_int))))
 (dss_one (ds_ret de_bl))))))
theorem d_is_prime {P : Program} {w : World} {K : PySem.W.Frag} {mg : Str → Option Value} {base : Heap} {f : Addr} {fd : FuncData} (F : FunD K "is_prime" "is_prime" (defArgs s_is_prime) (defBody s_is_prime) (defScope s_is_prime) [] [] f fd) (hmg : mg "is_prime" = some (.ref f)) : Dfn P w K mg base 1 "is_prime" 1 m_is_prime :=
  dfn_of F hmg (FunD.bindsN F fun _ _ _ _ _ _ us hl => match us, hl with | [_], _ => rfl) (w_is_prime F)

abbrev N_check_steps : List Str := ["steps", "modulus", "cells", "inputs", "most", "looks", "step"]
abbrev P_check_steps : List Str := ["steps", "modulus", "cells", "inputs", "most"]
theorem sc_check_steps : FnScope N_check_steps P_check_steps (defScope s_check_steps) := ⟨rfl, rfl, rfl, by decide +kernel, rfl, by decide +kernel, by decide +kernel⟩
noncomputable def g_check_steps : SF := (sSeq (sIf (tOr (tNot (tTru (eUn (isiG .lst) (eVar 0)))) (tVal (eOp gtG (eUn lenD (eVar 0)) (eVar 4)))) (sRaise "BadStep") sNil)
 (sSeq (sAsg 5 (eC (.bl false)))
 (sSeq (sFor (seqI (eVar 0)) (.nm 6) (sSeq (sIf (tNot (tTru (eCall m_is_step (aCons (eVar 6) (aCons (eVar 1) (aCons (eVar 2) (aCons (eVar 3) aNil))))))) (sRaise "BadStep") sNil)
 (sAsg 5 (eOr (eVar 5) (eOp eqG (eOp ixG (eVar 6) (eC (.int 0))) (eC (.str "table")))))))
 (sIf (tAnd (tTru (eVar 5)) (tNot (tTru (eCall m_is_prime (aCons (eVar 1) aNil))))) (sRaise "BadStep") sNil))))
noncomputable def m_check_steps : List D → Hd → Option (Rs D) := mir N_check_steps.length P_check_steps.length g_check_steps
theorem w_check_steps {P : Program} {w : World} {K : PySem.W.Frag} {mg : Str → Option Value} {base : Heap} {f : Addr} {fd : FuncData} (F : FunD K "check_steps" "check_steps" (defArgs s_check_steps) (defBody s_check_steps) (defScope s_check_steps) [] [] f fd) (b_isinstance : mg "isinstance" = none) (b_list : mg "list" = none) (b_len : mg "len" = none) (F_is_step : Dfn P w K mg base 5 "is_step" 4 m_is_step) (F_is_prime : Dfn P w K mg base 1 "is_prime" 1 m_is_prime) (x_BadStep : XCl K mg "BadStep") : FnOk P w K mg base (L2.CX P w) 6 f fd P_check_steps (spD K mg 5 m_check_steps) := by
  refine fn_mk (k := 5) (g := g_check_steps) F sc_check_steps fun cdv A outer s H E hr => ?_
  have nd := sc_check_steps.nd
  have tk : Takes (cxOf (L2.CX P w) P w K mg base N_check_steps "check_steps" (defScope s_check_steps) f cdv A outer s H E) (fun cls d _ H => E cls d H) := takes_of rfl rfl rfl rfl
  have po : PassesOwn (model P w) (cxOf (L2.CX P w) P w K mg base N_check_steps "check_steps" (defScope s_check_steps) f cdv A outer s H E).A (cxOf (L2.CX P w) P w K mg base N_check_steps "check_steps" (defScope s_check_steps) f cdv A outer s H E).env (cxOf (L2.CX P w) P w K mg base N_check_steps "check_steps" (defScope s_check_steps) f cdv A outer s H E).xe := passes_of rfl
  exact (dss_cons (ds_if (dt_w (dw_or (dt_not (dt_tru (de_isi .lst (de_var 0) b_isinstance b_list PyProof.Rows.boot_list))) (dw_or1 (dt_cmp op_gt od_gt (de_len (de_var 0) b_len) (de_var 4))))) (dss_one (ds_raise rfl tk x_BadStep)) dss_nil)
 (dss_cons (ds_set 5 nd de_bl)
 (dss_cons (ds_for po rfl (di_seq (de_var 0)) (dg_nm 6 nd) (dss_cons (ds_if (dt_not (dt_tru (de_call (F_is_step.mono (by decide)) tk hr (da_cons (de_var 6) (da_cons (de_var 1) (da_cons (de_var 2) (da_cons (de_var 3) da_nil))))))) (dss_one (ds_raise rfl tk x_BadStep)) dss_nil)
 (dss_one (ds_set 5 nd (de_or (de_var 5) (de_orE (de_cmp (op_eqP hr.units) od_eq (de_ix (de_var 6) de_int) de_str)))))))
 (dss_one (ds_if (dt_w (dw_and (dt_tru (de_var 5)) (dw_and1 (dt_not (dt_tru (de_call (F_is_prime.mono (by decide)) tk hr (da_cons (de_var 1) da_nil))))))) (dss_one (ds_raise rfl tk x_BadStep)) dss_nil)))))
theorem d_check_steps {P : Program} {w : World} {K : PySem.W.Frag} {mg : Str → Option Value} {base : Heap} {f : Addr} {fd : FuncData} (F : FunD K "check_steps" "check_steps" (defArgs s_check_steps) (defBody s_check_steps) (defScope s_check_steps) [] [] f fd) (hmg : mg "check_steps" = some (.ref f)) (b_isinstance : mg "isinstance" = none) (b_list : mg "list" = none) (b_len : mg "len" = none) (F_is_step : Dfn P w K mg base 5 "is_step" 4 m_is_step) (F_is_prime : Dfn P w K mg base 1 "is_prime" 1 m_is_prime) (x_BadStep : XCl K mg "BadStep") : Dfn P w K mg base 6 "check_steps" 5 m_check_steps :=
  dfn_of F hmg (FunD.bindsN F fun _ _ _ _ _ _ us hl => match us, hl with | [_, _, _, _, _], _ => rfl) (w_check_steps F b_isinstance b_list b_len F_is_step F_is_prime x_BadStep)

abbrev N_Program___init__ : List Str := ["self", "modulus", "cells", "inputs", "steps"]
abbrev P_Program___init__ : List Str := ["self", "modulus", "cells", "inputs", "steps"]
theorem sc_Program___init__ : FnScope N_Program___init__ P_Program___init__ (defScope s_Program___init__) := ⟨rfl, rfl, rfl, by decide +kernel, rfl, by decide +kernel, by decide +kernel⟩
noncomputable def g_Program___init__ : SF := (sSeq (sIf (tOr (tNot (tTru (eCall m_is_integer (aCons (eVar 1) aNil)))) (tNot (tVal (eChain leG leG (eC (.int 2)) (eVar 1) (eC (.int 1000000000)))))) (sRaise "BadStep") sNil)
 (sSeq (sIf (tOr (tNot (tTru (eCall m_is_integer (aCons (eVar 2) aNil)))) (tNot (tVal (eChain leG leG (eC (.int 1)) (eVar 2) (eC (.int 60)))))) (sRaise "BadStep") sNil)
 (sSeq (sIf (tOr (tNot (tTru (eCall m_is_integer (aCons (eVar 3) aNil)))) (tNot (tVal (eChain leG leG (eC (.int 0)) (eVar 3) (eC (.int 60)))))) (sRaise "BadStep") sNil)
 (sSeq (sDrop (eCall m_check_steps (aCons (eVar 4) (aCons (eVar 1) (aCons (eVar 2) (aCons (eVar 3) (aCons (eC (.int 20000)) aNil)))))))
 (sSeq (sFld "Program" "modulus" (eVar 0) (eVar 1))
 (sSeq (sFld "Program" "cells" (eVar 0) (eVar 2))
 (sSeq (sFld "Program" "inputs" (eVar 0) (eVar 3))
 (sFld "Program" "steps" (eVar 0) (eUn listG (eVar 4))))))))))
noncomputable def m_Program___init__ : List D → Hd → Option (Rs D) := mir N_Program___init__.length P_Program___init__.length g_Program___init__
theorem w_Program___init__ {P : Program} {w : World} {K : PySem.W.Frag} {mg : Str → Option Value} {base : Heap} {f : Addr} {fd : FuncData} (F : FunD K "__init__" "Program.__init__" (defArgs s_Program___init__) (defBody s_Program___init__) (defScope s_Program___init__) [] [] f fd) (b_list : mg "list" = none) (c_MODULUS : ∃ u, mg "MODULUS" = some u ∧ RelV (.int  1000000000) u) (c_CELLS : ∃ u, mg "CELLS" = some u ∧ RelV (.int  60) u) (c_INPUTS_programs : ∃ u, mg "INPUTS_programs" = some u ∧ RelV (.int  60) u) (c_STEPS : ∃ u, mg "STEPS" = some u ∧ RelV (.int  20000) u) (F_is_integer : Dfn P w K mg base 1 "is_integer" 1 m_is_integer) (F_check_steps : Dfn P w K mg base 6 "check_steps" 5 m_check_steps) (x_BadStep : XCl K mg "BadStep") (cf_Program : ClsK K mg "Program" ["modulus", "cells", "inputs", "steps"]) : FnOk P w K mg base (L2.CX P w) 7 f fd P_Program___init__ (spD K mg 5 m_Program___init__) := by
  refine fn_mk (k := 6) (g := g_Program___init__) F sc_Program___init__ fun cdv A outer s H E hr => ?_
  have nd := sc_Program___init__.nd
  have tk : Takes (cxOf (L2.CX P w) P w K mg base N_Program___init__ "Program.__init__" (defScope s_Program___init__) f cdv A outer s H E) (fun cls d _ H => E cls d H) := takes_of rfl rfl rfl rfl
  have po : PassesOwn (model P w) (cxOf (L2.CX P w) P w K mg base N_Program___init__ "Program.__init__" (defScope s_Program___init__) f cdv A outer s H E).A (cxOf (L2.CX P w) P w K mg base N_Program___init__ "Program.__init__" (defScope s_Program___init__) f cdv A outer s H E).env (cxOf (L2.CX P w) P w K mg base N_Program___init__ "Program.__init__" (defScope s_Program___init__) f cdv A outer s H E).xe := passes_of rfl
  exact (dss_cons (ds_if (dt_w (dw_or (dt_not (dt_tru (de_call (F_is_integer.mono (by decide)) tk hr (da_cons (de_var 1) da_nil)))) (dw_or1 (dt_not (dt_chain op_le od_le op_le od_le de_int (de_var 1) (de_gi c_MODULUS)))))) (dss_one (ds_raise rfl tk x_BadStep)) dss_nil)
 (dss_cons (ds_if (dt_w (dw_or (dt_not (dt_tru (de_call (F_is_integer.mono (by decide)) tk hr (da_cons (de_var 2) da_nil)))) (dw_or1 (dt_not (dt_chain op_le od_le op_le od_le de_int (de_var 2) (de_gi c_CELLS)))))) (dss_one (ds_raise rfl tk x_BadStep)) dss_nil)
 (dss_cons (ds_if (dt_w (dw_or (dt_not (dt_tru (de_call (F_is_integer.mono (by decide)) tk hr (da_cons (de_var 3) da_nil)))) (dw_or1 (dt_not (dt_chain op_le od_le op_le od_le de_int (de_var 3) (de_gi c_INPUTS_programs)))))) (dss_one (ds_raise rfl tk x_BadStep)) dss_nil)
 (dss_cons (ds_drop (de_call (F_check_steps.mono (by decide)) tk hr (da_cons (de_var 4) (da_cons (de_var 1) (da_cons (de_var 2) (da_cons (de_var 3) (da_cons (de_gi c_STEPS) da_nil)))))))
 (dss_cons (ds_fld cf_Program (List.Mem.head _) (de_var 0) (de_var 1))
 (dss_cons (ds_fld cf_Program (List.Mem.tail _ (List.Mem.head _)) (de_var 0) (de_var 2))
 (dss_cons (ds_fld cf_Program (List.Mem.tail _ (List.Mem.tail _ (List.Mem.head _))) (de_var 0) (de_var 3))
 (dss_one (ds_fld cf_Program (List.Mem.tail _ (List.Mem.tail _ (List.Mem.tail _ (List.Mem.head _)))) (de_var 0) (de_list (de_var 4) b_list))))))))))
theorem d_Program___init__ {P : Program} {w : World} {K : PySem.W.Frag} {mg : Str → Option Value} {base : Heap} {f : Addr} {fd : FuncData} (F : FunD K "__init__" "Program.__init__" (defArgs s_Program___init__) (defBody s_Program___init__) (defScope s_Program___init__) [] [] f fd) {C : Addr} (hC : mg "Program" = some (.ref C)) (hm : Mk K C f) (b_list : mg "list" = none) (c_MODULUS : ∃ u, mg "MODULUS" = some u ∧ RelV (.int  1000000000) u) (c_CELLS : ∃ u, mg "CELLS" = some u ∧ RelV (.int  60) u) (c_INPUTS_programs : ∃ u, mg "INPUTS_programs" = some u ∧ RelV (.int  60) u) (c_STEPS : ∃ u, mg "STEPS" = some u ∧ RelV (.int  20000) u) (F_is_integer : Dfn P w K mg base 1 "is_integer" 1 m_is_integer) (F_check_steps : Dfn P w K mg base 6 "check_steps" 5 m_check_steps) (x_BadStep : XCl K mg "BadStep") (cf_Program : ClsK K mg "Program" ["modulus", "cells", "inputs", "steps"]) : MkI P w K mg base 7 "Program" 5 m_Program___init__ :=
  ⟨fun ds M o e => mir_len e, C, f, fd, P_Program___init__, hC, hm, (FunD.bindsN F fun _ _ _ _ _ _ us hl => match us, hl with | [_, _, _, _, _], _ => rfl), (w_Program___init__ F b_list c_MODULUS c_CELLS c_INPUTS_programs c_STEPS F_is_integer F_check_steps x_BadStep cf_Program)⟩

abbrev N__law_mixed : List Str := ["_law_number", "_law_k", "_law_step"]
abbrev P__law_mixed : List Str := ["_law_number", "_law_k"]
theorem sc__law_mixed : FnScope N__law_mixed P__law_mixed (defScope s__law_mixed) := ⟨rfl, rfl, rfl, by decide +kernel, rfl, by decide +kernel, by decide +kernel⟩
noncomputable def g__law_mixed : SF := (sSeq (sAsg 2 (eOp modG (eOp addG (eOp addG (eOp mulG (eVar 0) (eC (.int 48271))) (eOp mulG (eVar 1) (eC (.int 69621)))) (eC (.int 12345))) (eC (.int 2147483647))))
 (sRet (eOp modG (eOp addG (eOp mulG (eVar 2) (eOp addG (eOp divG (eVar 2) (eC (.int 65536))) (eC (.int 3)))) (eVar 1)) (eC (.int 2147483647)))))
noncomputable def m__law_mixed : List D → Hd → Option (Rs D) := mir N__law_mixed.length P__law_mixed.length g__law_mixed
theorem w__law_mixed {P : Program} {w : World} {K : PySem.W.Frag} {mg : Str → Option Value} {base : Heap} {f : Addr} {fd : FuncData} (F : FunD K "_law_mixed" "_law_mixed" (defArgs s__law_mixed) (defBody s__law_mixed) (defScope s__law_mixed) [] [] f fd) : FnOk P w K mg base (L2.CX P w) 1 f fd P__law_mixed (spD K mg 2 m__law_mixed) := by
  refine fn_mk (k := 0) (g := g__law_mixed) F sc__law_mixed fun cdv A outer s H E hr => ?_
  have nd := sc__law_mixed.nd
  have tk : Takes (cxOf (L2.CX P w) P w K mg base N__law_mixed "_law_mixed" (defScope s__law_mixed) f cdv A outer s H E) (fun cls d _ H => E cls d H) := takes_of rfl rfl rfl rfl
  have po : PassesOwn (model P w) (cxOf (L2.CX P w) P w K mg base N__law_mixed "_law_mixed" (defScope s__law_mixed) f cdv A outer s H E).A (cxOf (L2.CX P w) P w K mg base N__law_mixed "_law_mixed" (defScope s__law_mixed) f cdv A outer s H E).env (cxOf (L2.CX P w) P w K mg base N__law_mixed "_law_mixed" (defScope s__law_mixed) f cdv A outer s H E).xe := passes_of rfl
  exact (dss_cons (ds_set 2 nd (de_op op_mod od_mod (de_op op_addD od_add (de_op op_addD od_add (de_op op_mulD od_mul (de_var 0) de_int) (de_op op_mulD od_mul (de_var 1) de_int)) de_int) de_int))
 (dss_one (ds_ret (de_op op_mod od_mod (de_op op_addD od_add (de_op op_mulD od_mul (de_var 2) (de_op op_addD od_add (de_op op_fdivW od_div (de_var 2) de_int) de_int)) (de_var 1)) de_int))))
theorem d__law_mixed {P : Program} {w : World} {K : PySem.W.Frag} {mg : Str → Option Value} {base : Heap} {f : Addr} {fd : FuncData} (F : FunD K "_law_mixed" "_law_mixed" (defArgs s__law_mixed) (defBody s__law_mixed) (defScope s__law_mixed) [] [] f fd) (hmg : mg "_law_mixed" = some (.ref f)) : Dfn P w K mg base 1 "_law_mixed" 2 m__law_mixed :=
  dfn_of F hmg (FunD.bindsN F fun _ _ _ _ _ _ us hl => match us, hl with | [_, _], _ => rfl) (w__law_mixed F)

abbrev N__law_draw : List Str := ["_law_draws", "_law_at", "_law_first"]
abbrev P__law_draw : List Str := ["_law_draws"]
theorem sc__law_draw : FnScope N__law_draw P__law_draw (defScope s__law_draw) := ⟨rfl, rfl, rfl, by decide +kernel, rfl, by decide +kernel, by decide +kernel⟩
noncomputable def g__law_draw : SF := (sSeq (sAsg 1 (eOp ixG (eVar 0) (eC (.int 1))))
 (sSeq (sSetI (eOp addG (eVar 1) (eC (.int 1))) (eVar 0) (eC (.int 1)))
 (sSeq (sIf (tVal (eOp ltG (eVar 1) (eUn lenD (eOp ixG (eVar 0) (eC (.int 0)))))) (sRet (eOp ixG (eOp ixG (eVar 0) (eC (.int 0))) (eVar 1))) sNil)
 (sSeq (sAsg 2 (eOp addG (eC (.int 1)) (eVar 1)))
 (sSeq (sIf (tVal (eOp gtG (eUn lenD (eOp ixG (eVar 0) (eC (.int 0)))) (eC (.int 0)))) (sAsg 2 (eOp addG (eVar 2) (eOp mulG (eC (.int 1009)) (eOp ixG (eOp ixG (eVar 0) (eC (.int 0))) (eC (.int 0)))))) sNil)
 (sRet (eOp modG (eCall m__law_mixed (aCons (eCall m__law_mixed (aCons (eVar 2) (aCons (eVar 1) aNil))) (aCons (eC (.int 5)) aNil))) (eC (.int 1000000)))))))))
noncomputable def m__law_draw : List D → Hd → Option (Rs D) := mir N__law_draw.length P__law_draw.length g__law_draw
theorem w__law_draw {P : Program} {w : World} {K : PySem.W.Frag} {mg : Str → Option Value} {base : Heap} {f : Addr} {fd : FuncData} (F : FunD K "_law_draw" "_law_draw" (defArgs s__law_draw) (defBody s__law_draw) (defScope s__law_draw) [] [] f fd) (b_len : mg "len" = none) (F__law_mixed : Dfn P w K mg base 1 "_law_mixed" 2 m__law_mixed) : FnOk P w K mg base (L2.CX P w) 2 f fd P__law_draw (spD K mg 1 m__law_draw) := by
  refine fn_mk (k := 1) (g := g__law_draw) F sc__law_draw fun cdv A outer s H E hr => ?_
  have nd := sc__law_draw.nd
  have tk : Takes (cxOf (L2.CX P w) P w K mg base N__law_draw "_law_draw" (defScope s__law_draw) f cdv A outer s H E) (fun cls d _ H => E cls d H) := takes_of rfl rfl rfl rfl
  have po : PassesOwn (model P w) (cxOf (L2.CX P w) P w K mg base N__law_draw "_law_draw" (defScope s__law_draw) f cdv A outer s H E).A (cxOf (L2.CX P w) P w K mg base N__law_draw "_law_draw" (defScope s__law_draw) f cdv A outer s H E).env (cxOf (L2.CX P w) P w K mg base N__law_draw "_law_draw" (defScope s__law_draw) f cdv A outer s H E).xe := passes_of rfl
  exact (dss_cons (ds_set 1 nd (de_ix (de_var 0) de_int))
 (dss_cons (ds_setI (de_op op_addD od_add (de_var 1) de_int) (de_var 0) de_int)
 (dss_cons (ds_if (dt_cmp op_lt od_lt (de_var 1) (de_len (de_ix (de_var 0) de_int) b_len)) (dss_one (ds_ret (de_ix (de_ix (de_var 0) de_int) (de_var 1)))) dss_nil)
 (dss_cons (ds_set 2 nd (de_op op_addD od_add de_int (de_var 1)))
 (dss_cons (ds_if (dt_cmp op_gt od_gt (de_len (de_ix (de_var 0) de_int) b_len) de_int) (dss_one (ds_set 2 nd (de_op op_addD od_add (de_var 2) (de_op op_mulD od_mul de_int (de_ix (de_ix (de_var 0) de_int) de_int))))) dss_nil)
 (dss_one (ds_ret (de_op op_mod od_mod (de_call (F__law_mixed.mono (by decide)) tk hr (da_cons (de_call (F__law_mixed.mono (by decide)) tk hr (da_cons (de_var 2) (da_cons (de_var 1) da_nil))) (da_cons de_int da_nil))) de_int))))))))
theorem d__law_draw {P : Program} {w : World} {K : PySem.W.Frag} {mg : Str → Option Value} {base : Heap} {f : Addr} {fd : FuncData} (F : FunD K "_law_draw" "_law_draw" (defArgs s__law_draw) (defBody s__law_draw) (defScope s__law_draw) [] [] f fd) (hmg : mg "_law_draw" = some (.ref f)) (b_len : mg "len" = none) (F__law_mixed : Dfn P w K mg base 1 "_law_mixed" 2 m__law_mixed) : Dfn P w K mg base 2 "_law_draw" 1 m__law_draw :=
  dfn_of F hmg (FunD.bindsN F fun _ _ _ _ _ _ us hl => match us, hl with | [_], _ => rfl) (w__law_draw F b_len F__law_mixed)

abbrev N__law_source : List Str := ["_law_draws", "_law_many", "_law_inputs", "_law_nodes", "_law_costs", "_law_k", "_law_pick", "_law_i", "_law_j", "_law_l", "_law_node", "_law_cost"]
abbrev P__law_source : List Str := ["_law_draws", "_law_many", "_law_inputs"]
theorem sc__law_source : FnScope N__law_source P__law_source (defScope s__law_source) := ⟨rfl, rfl, rfl, by decide +kernel, rfl, by decide +kernel, by decide +kernel⟩
noncomputable def g__law_source : SF := (sSeq (sAsg 3 (eLst aNil))
 (sSeq (sAsg 4 (eLst aNil))
 (sSeq (sFor (rng1 (eVar 1)) (.nm 5) (sSeq (sAsg 6 (eOp modG (eCall m__law_draw (aCons (eVar 0) aNil)) (eC (.int 8))))
 (sSeq (sAsg 7 (eOp modG (eCall m__law_draw (aCons (eVar 0) aNil)) (eCB max2 (aCons (eC (.int 1)) (aCons (eVar 5) aNil)))))
 (sSeq (sAsg 8 (eOp modG (eCall m__law_draw (aCons (eVar 0) aNil)) (eCB max2 (aCons (eC (.int 1)) (aCons (eVar 5) aNil)))))
 (sSeq (sAsg 9 (eOp modG (eCall m__law_draw (aCons (eVar 0) aNil)) (eCB max2 (aCons (eC (.int 1)) (aCons (eVar 5) aNil)))))
 (sSeq (sAsg 10 (eTup (aCons (eC (.str "input")) (aCons (eOp modG (eCall m__law_draw (aCons (eVar 0) aNil)) (eVar 2)) aNil))))
 (sSeq (sAsg 11 (eC (.int 1)))
 (sSeq (sIf (tAnd (tVal (eOp gtG (eVar 5) (eC (.int 0)))) (tVal (eOp ltG (eVar 6) (eC (.int 2))))) (sSeq (sAsg 10 (eTup (aCons (eC (.str "sum")) (aCons (eVar 7) (aCons (eVar 8) aNil)))))
 (sAsg 11 (eOp addG (eOp ixG (eVar 4) (eVar 7)) (eOp ixG (eVar 4) (eVar 8))))) (sIf (tAnd (tVal (eOp gtG (eVar 5) (eC (.int 0)))) (tVal (eOp ltG (eVar 6) (eC (.int 4))))) (sSeq (sAsg 10 (eTup (aCons (eC (.str "product")) (aCons (eVar 7) (aCons (eVar 8) aNil)))))
 (sAsg 11 (eOp mulG (eC (.int 2)) (eOp addG (eOp ixG (eVar 4) (eVar 7)) (eOp ixG (eVar 4) (eVar 8)))))) (sIf (tAnd (tVal (eOp gtG (eVar 5) (eC (.int 0)))) (tVal (eOp eqG (eVar 6) (eC (.int 4))))) (sSeq (sAsg 10 (eTup (aCons (eC (.str "choose")) (aCons (eVar 7) (aCons (eVar 8) (aCons (eVar 9) aNil))))))
 (sAsg 11 (eOp addG (eOp ixG (eVar 4) (eVar 9)) (eOp mulG (eC (.int 2)) (eOp addG (eOp addG (eOp ixG (eVar 4) (eVar 7)) (eOp ixG (eVar 4) (eVar 8))) (eOp ixG (eVar 4) (eVar 9))))))) (sIf (tAnd (tVal (eOp gtG (eVar 5) (eC (.int 0)))) (tVal (eOp eqG (eVar 6) (eC (.int 5))))) (sSeq (sAsg 10 (eTup (aCons (eC (.str "scaled")) (aCons (eCall m__law_draw (aCons (eVar 0) aNil)) (aCons (eVar 7) aNil)))))
 (sAsg 11 (eOp ixG (eVar 4) (eVar 7)))) (sIf (tVal (eOp eqG (eVar 6) (eC (.int 6)))) (sAsg 10 (eTup (aCons (eC (.str "const")) (aCons (eCall m__law_draw (aCons (eVar 0) aNil)) aNil)))) sNil)))))
 (sSeq (sIf (tVal (eOp gtG (eVar 11) (eC (.int 300)))) (sSeq (sAsg 10 (eTup (aCons (eC (.str "const")) (aCons (eCall m__law_draw (aCons (eVar 0) aNil)) aNil))))
 (sAsg 11 (eC (.int 1)))) sNil)
 (sSeq (sDrop (eLm appendG (eVar 3) (aCons (eVar 10) aNil)))
 (sDrop (eLm appendG (eVar 4) (aCons (eVar 11) aNil)))))))))))))
 (sRet (eUn tupleG (eVar 3))))))
noncomputable def m__law_source : List D → Hd → Option (Rs D) := mir N__law_source.length P__law_source.length g__law_source
theorem w__law_source {P : Program} {w : World} {K : PySem.W.Frag} {mg : Str → Option Value} {base : Heap} {f : Addr} {fd : FuncData} (F : FunD K "_law_source" "_law_source" (defArgs s__law_source) (defBody s__law_source) (defScope s__law_source) [] [] f fd) (b_range : mg "range" = none) (b_max : mg "max" = none) (b_tuple : mg "tuple" = none) (F__law_draw : Dfn P w K mg base 2 "_law_draw" 1 m__law_draw) : FnOk P w K mg base (L2.CX P w) 3 f fd P__law_source (spD K mg 3 m__law_source) := by
  refine fn_mk (k := 2) (g := g__law_source) F sc__law_source fun cdv A outer s H E hr => ?_
  have nd := sc__law_source.nd
  have tk : Takes (cxOf (L2.CX P w) P w K mg base N__law_source "_law_source" (defScope s__law_source) f cdv A outer s H E) (fun cls d _ H => E cls d H) := takes_of rfl rfl rfl rfl
  have po : PassesOwn (model P w) (cxOf (L2.CX P w) P w K mg base N__law_source "_law_source" (defScope s__law_source) f cdv A outer s H E).A (cxOf (L2.CX P w) P w K mg base N__law_source "_law_source" (defScope s__law_source) f cdv A outer s H E).env (cxOf (L2.CX P w) P w K mg base N__law_source "_law_source" (defScope s__law_source) f cdv A outer s H E).xe := passes_of rfl
  exact (dss_cons (ds_set 3 nd (de_lst da_nil))
 (dss_cons (ds_set 4 nd (de_lst da_nil))
 (dss_cons (ds_for po rfl (di_rng1 (de_var 1) b_range) (dg_nm 5 nd) (dss_cons (ds_set 6 nd (de_op op_mod od_mod (de_call (F__law_draw.mono (by decide)) tk hr (da_cons (de_var 0) da_nil)) de_int))
 (dss_cons (ds_set 7 nd (de_op op_mod od_mod (de_call (F__law_draw.mono (by decide)) tk hr (da_cons (de_var 0) da_nil)) (de_max2 rfl (da_cons de_int (da_cons (de_var 5) da_nil)) b_max)))
 (dss_cons (ds_set 8 nd (de_op op_mod od_mod (de_call (F__law_draw.mono (by decide)) tk hr (da_cons (de_var 0) da_nil)) (de_max2 rfl (da_cons de_int (da_cons (de_var 5) da_nil)) b_max)))
 (dss_cons (ds_set 9 nd (de_op op_mod od_mod (de_call (F__law_draw.mono (by decide)) tk hr (da_cons (de_var 0) da_nil)) (de_max2 rfl (da_cons de_int (da_cons (de_var 5) da_nil)) b_max)))
 (dss_cons (ds_set 10 nd (de_tup (da_cons de_str (da_cons (de_op op_mod od_mod (de_call (F__law_draw.mono (by decide)) tk hr (da_cons (de_var 0) da_nil)) (de_var 2)) da_nil))))
 (dss_cons (ds_set 11 nd de_int)
 (dss_cons (ds_if (dt_w (dw_and (dt_cmp op_gt od_gt (de_var 5) de_int) (dw_and1 (dt_cmp op_lt od_lt (de_var 6) de_int)))) (dss_cons (ds_set 10 nd (de_tup (da_cons de_str (da_cons (de_var 7) (da_cons (de_var 8) da_nil)))))
 (dss_one (ds_set 11 nd (de_op op_addD od_add (de_ix (de_var 4) (de_var 7)) (de_ix (de_var 4) (de_var 8)))))) (dss_one (ds_if (dt_w (dw_and (dt_cmp op_gt od_gt (de_var 5) de_int) (dw_and1 (dt_cmp op_lt od_lt (de_var 6) de_int)))) (dss_cons (ds_set 10 nd (de_tup (da_cons de_str (da_cons (de_var 7) (da_cons (de_var 8) da_nil)))))
 (dss_one (ds_set 11 nd (de_op op_mulD od_mul de_int (de_op op_addD od_add (de_ix (de_var 4) (de_var 7)) (de_ix (de_var 4) (de_var 8))))))) (dss_one (ds_if (dt_w (dw_and (dt_cmp op_gt od_gt (de_var 5) de_int) (dw_and1 (dt_cmp (op_eqP hr.units) od_eq (de_var 6) de_int)))) (dss_cons (ds_set 10 nd (de_tup (da_cons de_str (da_cons (de_var 7) (da_cons (de_var 8) (da_cons (de_var 9) da_nil))))))
 (dss_one (ds_set 11 nd (de_op op_addD od_add (de_ix (de_var 4) (de_var 9)) (de_op op_mulD od_mul de_int (de_op op_addD od_add (de_op op_addD od_add (de_ix (de_var 4) (de_var 7)) (de_ix (de_var 4) (de_var 8))) (de_ix (de_var 4) (de_var 9)))))))) (dss_one (ds_if (dt_w (dw_and (dt_cmp op_gt od_gt (de_var 5) de_int) (dw_and1 (dt_cmp (op_eqP hr.units) od_eq (de_var 6) de_int)))) (dss_cons (ds_set 10 nd (de_tup (da_cons de_str (da_cons (de_call (F__law_draw.mono (by decide)) tk hr (da_cons (de_var 0) da_nil)) (da_cons (de_var 7) da_nil)))))
 (dss_one (ds_set 11 nd (de_ix (de_var 4) (de_var 7))))) (dss_one (ds_if (dt_cmp (op_eqP hr.units) od_eq (de_var 6) de_int) (dss_one (ds_set 10 nd (de_tup (da_cons de_str (da_cons (de_call (F__law_draw.mono (by decide)) tk hr (da_cons (de_var 0) da_nil)) da_nil))))) dss_nil)))))))))
 (dss_cons (ds_if (dt_cmp op_gt od_gt (de_var 11) de_int) (dss_cons (ds_set 10 nd (de_tup (da_cons de_str (da_cons (de_call (F__law_draw.mono (by decide)) tk hr (da_cons (de_var 0) da_nil)) da_nil))))
 (dss_one (ds_set 11 nd de_int))) dss_nil)
 (dss_cons (ds_drop (de_append (de_var 3) (da_cons (de_var 10) da_nil)))
 (dss_one (ds_drop (de_append (de_var 4) (da_cons (de_var 11) da_nil))))))))))))))
 (dss_one (ds_ret (de_tuple (de_var 3) b_tuple))))))
theorem d__law_source {P : Program} {w : World} {K : PySem.W.Frag} {mg : Str → Option Value} {base : Heap} {f : Addr} {fd : FuncData} (F : FunD K "_law_source" "_law_source" (defArgs s__law_source) (defBody s__law_source) (defScope s__law_source) [] [] f fd) (hmg : mg "_law_source" = some (.ref f)) (b_range : mg "range" = none) (b_max : mg "max" = none) (b_tuple : mg "tuple" = none) (F__law_draw : Dfn P w K mg base 2 "_law_draw" 1 m__law_draw) : Dfn P w K mg base 3 "_law_source" 3 m__law_source :=
  dfn_of F hmg (FunD.bindsN F fun _ _ _ _ _ _ us hl => match us, hl with | [_, _, _], _ => rfl) (w__law_source F b_range b_max b_tuple F__law_draw)

abbrev N__law_thin_source : List Str := ["_law_draws", "_law_source_here"]
abbrev P__law_thin_source : List Str := ["_law_draws"]
theorem sc__law_thin_source : FnScope N__law_thin_source P__law_thin_source (defScope s__law_thin_source) := ⟨rfl, rfl, rfl, by decide +kernel, rfl, by decide +kernel, by decide +kernel⟩
noncomputable def g__law_thin_source : SF := (sSeq (sAsg 1 (eCall m__law_source (aCons (eVar 0) (aCons (eOp addG (eC (.int 1)) (eOp modG (eCall m__law_draw (aCons (eVar 0) aNil)) (eC (.int 8)))) (aCons (eC (.int 2)) aNil)))))
 (sRet (eVar 1)))
noncomputable def m__law_thin_source : List D → Hd → Option (Rs D) := mir N__law_thin_source.length P__law_thin_source.length g__law_thin_source
theorem w__law_thin_source {P : Program} {w : World} {K : PySem.W.Frag} {mg : Str → Option Value} {base : Heap} {f : Addr} {fd : FuncData} (F : FunD K "_law_thin_source" "_law_thin_source" (defArgs s__law_thin_source) (defBody s__law_thin_source) (defScope s__law_thin_source) [] [] f fd) (F__law_draw : Dfn P w K mg base 2 "_law_draw" 1 m__law_draw) (F__law_source : Dfn P w K mg base 3 "_law_source" 3 m__law_source) : FnOk P w K mg base (L2.CX P w) 4 f fd P__law_thin_source (spD K mg 1 m__law_thin_source) := by
  refine fn_mk (k := 3) (g := g__law_thin_source) F sc__law_thin_source fun cdv A outer s H E hr => ?_
  have nd := sc__law_thin_source.nd
  have tk : Takes (cxOf (L2.CX P w) P w K mg base N__law_thin_source "_law_thin_source" (defScope s__law_thin_source) f cdv A outer s H E) (fun cls d _ H => E cls d H) := takes_of rfl rfl rfl rfl
  have po : PassesOwn (model P w) (cxOf (L2.CX P w) P w K mg base N__law_thin_source "_law_thin_source" (defScope s__law_thin_source) f cdv A outer s H E).A (cxOf (L2.CX P w) P w K mg base N__law_thin_source "_law_thin_source" (defScope s__law_thin_source) f cdv A outer s H E).env (cxOf (L2.CX P w) P w K mg base N__law_thin_source "_law_thin_source" (defScope s__law_thin_source) f cdv A outer s H E).xe := passes_of rfl
  exact (dss_cons (ds_set 1 nd (de_call (F__law_source.mono (by decide)) tk hr (da_cons (de_var 0) (da_cons (de_op op_addD od_add de_int (de_op op_mod od_mod (de_call (F__law_draw.mono (by decide)) tk hr (da_cons (de_var 0) da_nil)) de_int)) (da_cons de_int da_nil)))))
 (dss_one (ds_ret (de_var 1))))
theorem d__law_thin_source {P : Program} {w : World} {K : PySem.W.Frag} {mg : Str → Option Value} {base : Heap} {f : Addr} {fd : FuncData} (F : FunD K "_law_thin_source" "_law_thin_source" (defArgs s__law_thin_source) (defBody s__law_thin_source) (defScope s__law_thin_source) [] [] f fd) (hmg : mg "_law_thin_source" = some (.ref f)) (F__law_draw : Dfn P w K mg base 2 "_law_draw" 1 m__law_draw) (F__law_source : Dfn P w K mg base 3 "_law_source" 3 m__law_source) : Dfn P w K mg base 4 "_law_thin_source" 1 m__law_thin_source :=
  dfn_of F hmg (FunD.bindsN F fun _ _ _ _ _ _ us hl => match us, hl with | [_], _ => rfl) (w__law_thin_source F F__law_draw F__law_source)

abbrev N__law_needs : List Str := ["_law_source_here", "_law_node"]
abbrev P__law_needs : List Str := ["_law_source_here"]
theorem sc__law_needs : FnScope N__law_needs P__law_needs (defScope s__law_needs) := ⟨rfl, rfl, rfl, by decide +kernel, rfl, by decide +kernel, by decide +kernel⟩
noncomputable def g__law_needs : SF := (sRet (eUn max1G (eOp addG (eLst (aCons (eC (.int 0)) aNil)) (eLc (seqI (eVar 0)) (.nm 1) (tVal (eOp eqG (eOp ixG (eVar 1) (eC (.int 0))) (eC (.str "input")))) (eOp addG (eOp ixG (eVar 1) (eC (.int 1))) (eC (.int 1))) [1]))))
noncomputable def m__law_needs : List D → Hd → Option (Rs D) := mir N__law_needs.length P__law_needs.length g__law_needs
theorem w__law_needs {P : Program} {w : World} {K : PySem.W.Frag} {mg : Str → Option Value} {base : Heap} {f : Addr} {fd : FuncData} (F : FunD K "_law_needs" "_law_needs" (defArgs s__law_needs) (defBody s__law_needs) (defScope s__law_needs) [] [] f fd) (b_max : mg "max" = none) : FnOk P w K mg base (L2.CX P w) 1 f fd P__law_needs (spD K mg 1 m__law_needs) := by
  refine fn_mk (k := 0) (g := g__law_needs) F sc__law_needs fun cdv A outer s H E hr => ?_
  have nd := sc__law_needs.nd
  have tk : Takes (cxOf (L2.CX P w) P w K mg base N__law_needs "_law_needs" (defScope s__law_needs) f cdv A outer s H E) (fun cls d _ H => E cls d H) := takes_of rfl rfl rfl rfl
  have po : PassesOwn (model P w) (cxOf (L2.CX P w) P w K mg base N__law_needs "_law_needs" (defScope s__law_needs) f cdv A outer s H E).A (cxOf (L2.CX P w) P w K mg base N__law_needs "_law_needs" (defScope s__law_needs) f cdv A outer s H E).env (cxOf (L2.CX P w) P w K mg base N__law_needs "_law_needs" (defScope s__law_needs) f cdv A outer s H E).xe := passes_of rfl
  exact (dss_one (ds_ret (de_max1 rfl (de_op op_addD od_add (de_lst (da_cons de_int da_nil)) (de_lc (own := [("_law_node", 1)]) rfl nd (di_seq (de_var 0)) (blkOk_by (own := [("_law_node", 1)]) (N := N__law_needs) (sc := defScope s__law_needs) (by decide +kernel)) (by decide) (fun _ _ _ _ _ => (dg_nm 1 nd)) (fun _ _ _ _ _ => (dts_one (dt_cmp (op_eqP hr.units) od_eq (de_ix (de_var 1) de_int) de_str))) (fun _ _ _ _ _ => (de_op op_addD od_add (de_ix (de_var 1) de_int) de_int)))) b_max)))
theorem d__law_needs {P : Program} {w : World} {K : PySem.W.Frag} {mg : Str → Option Value} {base : Heap} {f : Addr} {fd : FuncData} (F : FunD K "_law_needs" "_law_needs" (defArgs s__law_needs) (defBody s__law_needs) (defScope s__law_needs) [] [] f fd) (hmg : mg "_law_needs" = some (.ref f)) (b_max : mg "max" = none) : Dfn P w K mg base 1 "_law_needs" 1 m__law_needs :=
  dfn_of F hmg (FunD.bindsN F fun _ _ _ _ _ _ us hl => match us, hl with | [_], _ => rfl) (w__law_needs F b_max)

abbrev N_is_node : List Str := ["node", "at", "index"]
abbrev P_is_node : List Str := ["node", "at"]
theorem sc_is_node : FnScope N_is_node P_is_node (defScope s_is_node) := ⟨rfl, rfl, rfl, by decide +kernel, rfl, by decide +kernel, by decide +kernel⟩
noncomputable def g_is_node : SF := (sSeq (sIf (tOr (tNot (tTru (eUn (isiG .tup) (eVar 0)))) (tOr (tVal (eOp ltG (eUn lenD (eVar 0)) (eC (.int 2)))) (tNot (tTru (eUn (isiG .str) (eOp ixG (eVar 0) (eC (.int 0)))))))) (sRet (eC (.bl false))) sNil)
 (sSeq (sIf (tVal (eOp neG (getC [("const", 2), ("input", 2), ("sum", 3), ("product", 3), ("scaled", 3), ("choose", 4)] (eOp ixG (eVar 0) (eC (.int 0)))) (eUn lenD (eVar 0)))) (sRet (eC (.bl false))) sNil)
 (sSeq (sIf (tVal (eOp eqG (eOp ixG (eVar 0) (eC (.int 0))) (eC (.str "const")))) (sRet (eCall m_is_number (aCons (eOp ixG (eVar 0) (eC (.int 1))) (aCons (eC (.int 1000000000)) aNil)))) sNil)
 (sSeq (sIf (tVal (eOp eqG (eOp ixG (eVar 0) (eC (.int 0))) (eC (.str "input")))) (sRet (eCall m_is_number (aCons (eOp ixG (eVar 0) (eC (.int 1))) (aCons (eC (.int 60)) aNil)))) sNil)
 (sSeq (sIf (tVal (eOp eqG (eOp ixG (eVar 0) (eC (.int 0))) (eC (.str "scaled")))) (sRet (eAnd (eCall m_is_number (aCons (eOp ixG (eVar 0) (eC (.int 1))) (aCons (eC (.int 1000000000)) aNil))) (eCall m_is_number (aCons (eOp ixG (eVar 0) (eC (.int 2))) (aCons (eVar 1) aNil))))) sNil)
 (sSeq (sFor (seqI (eSl (eVar 0) (oSome (eC (.int 1))) oNone)) (.nm 2) (sIf (tNot (tTru (eCall m_is_number (aCons (eVar 2) (aCons (eVar 1) aNil))))) (sRet (eC (.bl false))) sNil))
 (sRet (eC (.bl true)))))))))
noncomputable def m_is_node : List D → Hd → Option (Rs D) := mir N_is_node.length P_is_node.length g_is_node
theorem w_is_node {P : Program} {w : World} {K : PySem.W.Frag} {mg : Str → Option Value} {base : Heap} {f : Addr} {fd : FuncData} (F : FunD K "is_node" "is_node" (defArgs s_is_node) (defBody s_is_node) (defScope s_is_node) [] [] f fd) (b_isinstance : mg "isinstance" = none) (b_tuple : mg "tuple" = none) (b_len : mg "len" = none) (b_str : mg "str" = none) (c_CONSTANT : ∃ u, mg "CONSTANT" = some u ∧ RelV (.int  1000000000) u) (c_INPUTS_sources : ∃ u, mg "INPUTS_sources" = some u ∧ RelV (.int  60) u) (F_is_number : Dfn P w K mg base 2 "is_number" 2 m_is_number) (t_LENGTHS : Tbl K w mg "LENGTHS" [("const", 2), ("input", 2), ("sum", 3), ("product", 3), ("scaled", 3), ("choose", 4)]) : FnOk P w K mg base (L2.CX P w) 3 f fd P_is_node (spD K mg 2 m_is_node) := by
  refine fn_mk (k := 2) (g := g_is_node) F sc_is_node fun cdv A outer s H E hr => ?_
  have nd := sc_is_node.nd
  have tk : Takes (cxOf (L2.CX P w) P w K mg base N_is_node "is_node" (defScope s_is_node) f cdv A outer s H E) (fun cls d _ H => E cls d H) := takes_of rfl rfl rfl rfl
  have po : PassesOwn (model P w) (cxOf (L2.CX P w) P w K mg base N_is_node "is_node" (defScope s_is_node) f cdv A outer s H E).A (cxOf (L2.CX P w) P w K mg base N_is_node "is_node" (defScope s_is_node) f cdv A outer s H E).env (cxOf (L2.CX P w) P w K mg base N_is_node "is_node" (defScope s_is_node) f cdv A outer s H E).xe := passes_of rfl
  exact (dss_cons (ds_if (dt_w (dw_or (dt_not (dt_tru (de_isi .tup (de_var 0) b_isinstance b_tuple PyProof.Rows.boot_tuple))) (dw_or (dt_cmp op_lt od_lt (de_len (de_var 0) b_len) de_int) (dw_or1 (dt_not (dt_tru (de_isi .str (de_ix (de_var 0) de_int) b_isinstance b_str PyProof.Rows.boot_str))))))) (dss_one (ds_ret de_bl)) dss_nil)
 (dss_cons (ds_if (dt_cmp (op_neP hr.units) od_ne (de_getC t_LENGTHS (de_ix (de_var 0) de_int)) (de_len (de_var 0) b_len)) (dss_one (ds_ret de_bl)) dss_nil)
 (dss_cons (ds_if (dt_cmp (op_eqP hr.units) od_eq (de_ix (de_var 0) de_int) de_str) (dss_one (ds_ret (de_call (F_is_number.mono (by decide)) tk hr (da_cons (de_ix (de_var 0) de_int) (da_cons (de_gi c_CONSTANT) da_nil))))) dss_nil)
 (dss_cons (ds_if (dt_cmp (op_eqP hr.units) od_eq (de_ix (de_var 0) de_int) de_str) (dss_one (ds_ret (de_call (F_is_number.mono (by decide)) tk hr (da_cons (de_ix (de_var 0) de_int) (da_cons (de_gi c_INPUTS_sources) da_nil))))) dss_nil)
 (dss_cons (ds_if (dt_cmp (op_eqP hr.units) od_eq (de_ix (de_var 0) de_int) de_str) (dss_one (ds_ret (de_and (de_call (F_is_number.mono (by decide)) tk hr (da_cons (de_ix (de_var 0) de_int) (da_cons (de_gi c_CONSTANT) da_nil))) (de_andE (de_call (F_is_number.mono (by decide)) tk hr (da_cons (de_ix (de_var 0) de_int) (da_cons (de_var 1) da_nil))))))) dss_nil)
 (dss_cons (ds_for po rfl (di_seq (de_slice (de_var 0) (do_some de_int) do_none)) (dg_nm 2 nd) (dss_one (ds_if (dt_not (dt_tru (de_call (F_is_number.mono (by decide)) tk hr (da_cons (de_var 2) (da_cons (de_var 1) da_nil))))) (dss_one (ds_ret de_bl)) dss_nil)))
 (dss_one (ds_ret de_bl))))))))
theorem d_is_node {P : Program} {w : World} {K : PySem.W.Frag} {mg : Str → Option Value} {base : Heap} {f : Addr} {fd : FuncData} (F : FunD K "is_node" "is_node" (defArgs s_is_node) (defBody s_is_node) (defScope s_is_node) [] [] f fd) (hmg : mg "is_node" = some (.ref f)) (b_isinstance : mg "isinstance" = none) (b_tuple : mg "tuple" = none) (b_len : mg "len" = none) (b_str : mg "str" = none) (c_CONSTANT : ∃ u, mg "CONSTANT" = some u ∧ RelV (.int  1000000000) u) (c_INPUTS_sources : ∃ u, mg "INPUTS_sources" = some u ∧ RelV (.int  60) u) (F_is_number : Dfn P w K mg base 2 "is_number" 2 m_is_number) (t_LENGTHS : Tbl K w mg "LENGTHS" [("const", 2), ("input", 2), ("sum", 3), ("product", 3), ("scaled", 3), ("choose", 4)]) : Dfn P w K mg base 3 "is_node" 2 m_is_node :=
  dfn_of F hmg (FunD.bindsN F fun _ _ _ _ _ _ us hl => match us, hl with | [_, _], _ => rfl) (w_is_node F b_isinstance b_tuple b_len b_str c_CONSTANT c_INPUTS_sources F_is_number t_LENGTHS)

abbrev N_check_source : List Str := ["source", "at", "node"]
abbrev P_check_source : List Str := ["source"]
theorem sc_check_source : FnScope N_check_source P_check_source (defScope s_check_source) := ⟨rfl, rfl, rfl, by decide +kernel, rfl, by decide +kernel, by decide +kernel⟩
noncomputable def g_check_source : SF := (sSeq (sIf (tOr (tNot (tTru (eUn (isiG .tup) (eVar 0)))) (tNot (tVal (eChain leG leG (eC (.int 1)) (eUn lenD (eVar 0)) (eC (.int 200)))))) (sRaise "BadSource") sNil)
 (sFor (enumI (eVar 0)) (.tp [1, 2]) (sIf (tNot (tTru (eCall m_is_node (aCons (eVar 2) (aCons (eVar 1) aNil))))) (sRaise "BadSource") sNil)))
noncomputable def m_check_source : List D → Hd → Option (Rs D) := mir N_check_source.length P_check_source.length g_check_source
theorem w_check_source {P : Program} {w : World} {K : PySem.W.Frag} {mg : Str → Option Value} {base : Heap} {f : Addr} {fd : FuncData} (F : FunD K "check_source" "check_source" (defArgs s_check_source) (defBody s_check_source) (defScope s_check_source) [] [] f fd) (b_isinstance : mg "isinstance" = none) (b_tuple : mg "tuple" = none) (b_len : mg "len" = none) (b_enumerate : mg "enumerate" = none) (c_NODES : ∃ u, mg "NODES" = some u ∧ RelV (.int  200) u) (F_is_node : Dfn P w K mg base 3 "is_node" 2 m_is_node) (x_BadSource : XCl K mg "BadSource") : FnOk P w K mg base (L2.CX P w) 4 f fd P_check_source (spD K mg 1 m_check_source) := by
  refine fn_mk (k := 3) (g := g_check_source) F sc_check_source fun cdv A outer s H E hr => ?_
  have nd := sc_check_source.nd
  have tk : Takes (cxOf (L2.CX P w) P w K mg base N_check_source "check_source" (defScope s_check_source) f cdv A outer s H E) (fun cls d _ H => E cls d H) := takes_of rfl rfl rfl rfl
  have po : PassesOwn (model P w) (cxOf (L2.CX P w) P w K mg base N_check_source "check_source" (defScope s_check_source) f cdv A outer s H E).A (cxOf (L2.CX P w) P w K mg base N_check_source "check_source" (defScope s_check_source) f cdv A outer s H E).env (cxOf (L2.CX P w) P w K mg base N_check_source "check_source" (defScope s_check_source) f cdv A outer s H E).xe := passes_of rfl
  exact (dss_cons (ds_if (dt_w (dw_or (dt_not (dt_tru (de_isi .tup (de_var 0) b_isinstance b_tuple PyProof.Rows.boot_tuple))) (dw_or1 (dt_not (dt_chain op_le od_le op_le od_le de_int (de_len (de_var 0) b_len) (de_gi c_NODES)))))) (dss_one (ds_raise rfl tk x_BadSource)) dss_nil)
 (dss_one (ds_for po rfl (di_enum (de_var 0) b_enumerate) (dg_tp rfl (dgs_cons 1 nd (dgs_cons 2 nd dgs_nil))) (dss_one (ds_if (dt_not (dt_tru (de_call (F_is_node.mono (by decide)) tk hr (da_cons (de_var 2) (da_cons (de_var 1) da_nil))))) (dss_one (ds_raise rfl tk x_BadSource)) dss_nil)))))
theorem d_check_source {P : Program} {w : World} {K : PySem.W.Frag} {mg : Str → Option Value} {base : Heap} {f : Addr} {fd : FuncData} (F : FunD K "check_source" "check_source" (defArgs s_check_source) (defBody s_check_source) (defScope s_check_source) [] [] f fd) (hmg : mg "check_source" = some (.ref f)) (b_isinstance : mg "isinstance" = none) (b_tuple : mg "tuple" = none) (b_len : mg "len" = none) (b_enumerate : mg "enumerate" = none) (c_NODES : ∃ u, mg "NODES" = some u ∧ RelV (.int  200) u) (F_is_node : Dfn P w K mg base 3 "is_node" 2 m_is_node) (x_BadSource : XCl K mg "BadSource") : Dfn P w K mg base 4 "check_source" 1 m_check_source :=
  dfn_of F hmg (FunD.bindsN F fun _ _ _ _ _ _ us hl => match us, hl with | [_], _ => rfl) (w_check_source F b_isinstance b_tuple b_len b_enumerate c_NODES F_is_node x_BadSource)

abbrev N_cost : List Str := ["source", "costs", "node", "third"]
abbrev P_cost : List Str := ["source"]
theorem sc_cost : FnScope N_cost P_cost (defScope s_cost) := ⟨rfl, rfl, rfl, by decide +kernel, rfl, by decide +kernel, by decide +kernel⟩
noncomputable def g_cost : SF := (sSeq (sDrop (eCall m_check_source (aCons (eVar 0) aNil)))
 (sSeq (sAsg 1 (eLst aNil))
 (sSeq (sFor (seqI (eVar 0)) (.nm 2) (sIf (tOr (tVal (eOp eqG (eOp ixG (eVar 2) (eC (.int 0))) (eC (.str "const")))) (tVal (eOp eqG (eOp ixG (eVar 2) (eC (.int 0))) (eC (.str "input"))))) (sDrop (eLm appendG (eVar 1) (aCons (eC (.int 1)) aNil))) (sIf (tVal (eOp eqG (eOp ixG (eVar 2) (eC (.int 0))) (eC (.str "scaled")))) (sDrop (eLm appendG (eVar 1) (aCons (eOp ixG (eVar 1) (eOp ixG (eVar 2) (eC (.int 2)))) aNil))) (sIf (tVal (eOp eqG (eOp ixG (eVar 2) (eC (.int 0))) (eC (.str "sum")))) (sDrop (eLm appendG (eVar 1) (aCons (eOp addG (eOp ixG (eVar 1) (eOp ixG (eVar 2) (eC (.int 1)))) (eOp ixG (eVar 1) (eOp ixG (eVar 2) (eC (.int 2))))) aNil))) (sIf (tVal (eOp eqG (eOp ixG (eVar 2) (eC (.int 0))) (eC (.str "product")))) (sDrop (eLm appendG (eVar 1) (aCons (eOp mulG (eC (.int 2)) (eOp addG (eOp ixG (eVar 1) (eOp ixG (eVar 2) (eC (.int 1)))) (eOp ixG (eVar 1) (eOp ixG (eVar 2) (eC (.int 2)))))) aNil))) (sSeq (sAsg 3 (eOp ixG (eVar 1) (eOp ixG (eVar 2) (eC (.int 3)))))
 (sDrop (eLm appendG (eVar 1) (aCons (eOp addG (eVar 3) (eOp mulG (eC (.int 2)) (eOp addG (eOp addG (eOp ixG (eVar 1) (eOp ixG (eVar 2) (eC (.int 1)))) (eOp ixG (eVar 1) (eOp ixG (eVar 2) (eC (.int 2))))) (eVar 3)))) aNil)))))))))
 (sRet (eOp ixG (eVar 1) (eUn negG (eC (.int 1))))))))
noncomputable def m_cost : List D → Hd → Option (Rs D) := mir N_cost.length P_cost.length g_cost
theorem w_cost {P : Program} {w : World} {K : PySem.W.Frag} {mg : Str → Option Value} {base : Heap} {f : Addr} {fd : FuncData} (F : FunD K "cost" "cost" (defArgs s_cost) (defBody s_cost) (defScope s_cost) [] [] f fd) (F_check_source : Dfn P w K mg base 4 "check_source" 1 m_check_source) : FnOk P w K mg base (L2.CX P w) 5 f fd P_cost (spD K mg 1 m_cost) := by
  refine fn_mk (k := 4) (g := g_cost) F sc_cost fun cdv A outer s H E hr => ?_
  have nd := sc_cost.nd
  have tk : Takes (cxOf (L2.CX P w) P w K mg base N_cost "cost" (defScope s_cost) f cdv A outer s H E) (fun cls d _ H => E cls d H) := takes_of rfl rfl rfl rfl
  have po : PassesOwn (model P w) (cxOf (L2.CX P w) P w K mg base N_cost "cost" (defScope s_cost) f cdv A outer s H E).A (cxOf (L2.CX P w) P w K mg base N_cost "cost" (defScope s_cost) f cdv A outer s H E).env (cxOf (L2.CX P w) P w K mg base N_cost "cost" (defScope s_cost) f cdv A outer s H E).xe := passes_of rfl
  exact (dss_cons (ds_drop (de_call (F_check_source.mono (by decide)) tk hr (da_cons (de_var 0) da_nil)))
 (dss_cons (ds_set 1 nd (de_lst da_nil))
 (dss_cons (ds_for po rfl (di_seq (de_var 0)) (dg_nm 2 nd) (dss_one (ds_if (dt_w (dw_or (dt_cmp (op_eqP hr.units) od_eq (de_ix (de_var 2) de_int) de_str) (dw_or1 (dt_cmp (op_eqP hr.units) od_eq (de_ix (de_var 2) de_int) de_str)))) (dss_one (ds_drop (de_append (de_var 1) (da_cons de_int da_nil)))) (dss_one (ds_if (dt_cmp (op_eqP hr.units) od_eq (de_ix (de_var 2) de_int) de_str) (dss_one (ds_drop (de_append (de_var 1) (da_cons (de_ix (de_var 1) (de_ix (de_var 2) de_int)) da_nil)))) (dss_one (ds_if (dt_cmp (op_eqP hr.units) od_eq (de_ix (de_var 2) de_int) de_str) (dss_one (ds_drop (de_append (de_var 1) (da_cons (de_op op_addD od_add (de_ix (de_var 1) (de_ix (de_var 2) de_int)) (de_ix (de_var 1) (de_ix (de_var 2) de_int))) da_nil)))) (dss_one (ds_if (dt_cmp (op_eqP hr.units) od_eq (de_ix (de_var 2) de_int) de_str) (dss_one (ds_drop (de_append (de_var 1) (da_cons (de_op op_mulD od_mul de_int (de_op op_addD od_add (de_ix (de_var 1) (de_ix (de_var 2) de_int)) (de_ix (de_var 1) (de_ix (de_var 2) de_int)))) da_nil)))) (dss_cons (ds_set 3 nd (de_ix (de_var 1) (de_ix (de_var 2) de_int)))
 (dss_one (ds_drop (de_append (de_var 1) (da_cons (de_op op_addD od_add (de_var 3) (de_op op_mulD od_mul de_int (de_op op_addD od_add (de_op op_addD od_add (de_ix (de_var 1) (de_ix (de_var 2) de_int)) (de_ix (de_var 1) (de_ix (de_var 2) de_int))) (de_var 3)))) da_nil))))))))))))))
 (dss_one (ds_ret (de_ix (de_var 1) (de_un un_neg ou_neg de_int)))))))
theorem d_cost {P : Program} {w : World} {K : PySem.W.Frag} {mg : Str → Option Value} {base : Heap} {f : Addr} {fd : FuncData} (F : FunD K "cost" "cost" (defArgs s_cost) (defBody s_cost) (defScope s_cost) [] [] f fd) (hmg : mg "cost" = some (.ref f)) (F_check_source : Dfn P w K mg base 4 "check_source" 1 m_check_source) : Dfn P w K mg base 5 "cost" 1 m_cost :=
  dfn_of F hmg (FunD.bindsN F fun _ _ _ _ _ _ us hl => match us, hl with | [_], _ => rfl) (w_cost F F_check_source)

abbrev N_needs : List Str := ["source", "many", "node"]
abbrev P_needs : List Str := ["source"]
theorem sc_needs : FnScope N_needs P_needs (defScope s_needs) := ⟨rfl, rfl, rfl, by decide +kernel, rfl, by decide +kernel, by decide +kernel⟩
noncomputable def g_needs : SF := (sSeq (sDrop (eCall m_check_source (aCons (eVar 0) aNil)))
 (sSeq (sAsg 1 (eC (.int 0)))
 (sSeq (sFor (seqI (eVar 0)) (.nm 2) (sIf (tVal (eOp eqG (eOp ixG (eVar 2) (eC (.int 0))) (eC (.str "input")))) (sAsg 1 (eCB max2 (aCons (eVar 1) (aCons (eOp addG (eOp ixG (eVar 2) (eC (.int 1))) (eC (.int 1))) aNil)))) sNil))
 (sRet (eVar 1)))))
noncomputable def m_needs : List D → Hd → Option (Rs D) := mir N_needs.length P_needs.length g_needs
theorem w_needs {P : Program} {w : World} {K : PySem.W.Frag} {mg : Str → Option Value} {base : Heap} {f : Addr} {fd : FuncData} (F : FunD K "needs" "needs" (defArgs s_needs) (defBody s_needs) (defScope s_needs) [] [] f fd) (b_max : mg "max" = none) (F_check_source : Dfn P w K mg base 4 "check_source" 1 m_check_source) : FnOk P w K mg base (L2.CX P w) 5 f fd P_needs (spD K mg 1 m_needs) := by
  refine fn_mk (k := 4) (g := g_needs) F sc_needs fun cdv A outer s H E hr => ?_
  have nd := sc_needs.nd
  have tk : Takes (cxOf (L2.CX P w) P w K mg base N_needs "needs" (defScope s_needs) f cdv A outer s H E) (fun cls d _ H => E cls d H) := takes_of rfl rfl rfl rfl
  have po : PassesOwn (model P w) (cxOf (L2.CX P w) P w K mg base N_needs "needs" (defScope s_needs) f cdv A outer s H E).A (cxOf (L2.CX P w) P w K mg base N_needs "needs" (defScope s_needs) f cdv A outer s H E).env (cxOf (L2.CX P w) P w K mg base N_needs "needs" (defScope s_needs) f cdv A outer s H E).xe := passes_of rfl
  exact (dss_cons (ds_drop (de_call (F_check_source.mono (by decide)) tk hr (da_cons (de_var 0) da_nil)))
 (dss_cons (ds_set 1 nd de_int)
 (dss_cons (ds_for po rfl (di_seq (de_var 0)) (dg_nm 2 nd) (dss_one (ds_if (dt_cmp (op_eqP hr.units) od_eq (de_ix (de_var 2) de_int) de_str) (dss_one (ds_set 1 nd (de_max2 rfl (da_cons (de_var 1) (da_cons (de_op op_addD od_add (de_ix (de_var 2) de_int) de_int) da_nil)) b_max))) dss_nil)))
 (dss_one (ds_ret (de_var 1))))))
theorem d_needs {P : Program} {w : World} {K : PySem.W.Frag} {mg : Str → Option Value} {base : Heap} {f : Addr} {fd : FuncData} (F : FunD K "needs" "needs" (defArgs s_needs) (defBody s_needs) (defScope s_needs) [] [] f fd) (hmg : mg "needs" = some (.ref f)) (b_max : mg "max" = none) (F_check_source : Dfn P w K mg base 4 "check_source" 1 m_check_source) : Dfn P w K mg base 5 "needs" 1 m_needs :=
  dfn_of F hmg (FunD.bindsN F fun _ _ _ _ _ _ us hl => match us, hl with | [_], _ => rfl) (w_needs F b_max F_check_source)

abbrev N_leaf_step : List Str := ["node", "task", "modulus", "_", "target", "coefficient", "factors"]
abbrev P_leaf_step : List Str := ["node", "task", "modulus"]
theorem sc_leaf_step : FnScope N_leaf_step P_leaf_step (defScope s_leaf_step) := ⟨rfl, rfl, rfl, by decide +kernel, rfl, by decide +kernel, by decide +kernel⟩
noncomputable def g_leaf_step : SF := (sSeq (sAsgT [3, 4, 5, 6, 3] (eVar 1))
 (sSeq (sIf (tVal (eOp eqG (eOp ixG (eVar 0) (eC (.int 0))) (eC (.str "const")))) (sRet (eTup (aCons (eC (.str "add")) (aCons (eVar 4) (aCons (eOp modG (eOp mulG (eVar 5) (eOp ixG (eVar 0) (eC (.int 1)))) (eVar 2)) (aCons (eVar 6) aNil)))))) sNil)
 (sRet (eTup (aCons (eC (.str "add")) (aCons (eVar 4) (aCons (eVar 5) (aCons (eOp addG (eVar 6) (eTup (aCons (eTup (aCons (eC (.str "input")) (aCons (eOp ixG (eVar 0) (eC (.int 1))) aNil))) aNil))) aNil))))))))
noncomputable def m_leaf_step : List D → Hd → Option (Rs D) := mir N_leaf_step.length P_leaf_step.length g_leaf_step
theorem w_leaf_step {P : Program} {w : World} {K : PySem.W.Frag} {mg : Str → Option Value} {base : Heap} {f : Addr} {fd : FuncData} (F : FunD K "leaf_step" "leaf_step" (defArgs s_leaf_step) (defBody s_leaf_step) (defScope s_leaf_step) [] [] f fd) : FnOk P w K mg base (L2.CX P w) 1 f fd P_leaf_step (spD K mg 3 m_leaf_step) := by
  refine fn_mk (k := 0) (g := g_leaf_step) F sc_leaf_step fun cdv A outer s H E hr => ?_
  have nd := sc_leaf_step.nd
  have tk : Takes (cxOf (L2.CX P w) P w K mg base N_leaf_step "leaf_step" (defScope s_leaf_step) f cdv A outer s H E) (fun cls d _ H => E cls d H) := takes_of rfl rfl rfl rfl
  have po : PassesOwn (model P w) (cxOf (L2.CX P w) P w K mg base N_leaf_step "leaf_step" (defScope s_leaf_step) f cdv A outer s H E).A (cxOf (L2.CX P w) P w K mg base N_leaf_step "leaf_step" (defScope s_leaf_step) f cdv A outer s H E).env (cxOf (L2.CX P w) P w K mg base N_leaf_step "leaf_step" (defScope s_leaf_step) f cdv A outer s H E).xe := passes_of rfl
  exact (dss_cons (ds_asgT (de_var 1) (dg_tp rfl (dgs_cons 3 nd (dgs_cons 4 nd (dgs_cons 5 nd (dgs_cons 6 nd (dgs_cons 3 nd dgs_nil)))))))
 (dss_cons (ds_if (dt_cmp (op_eqP hr.units) od_eq (de_ix (de_var 0) de_int) de_str) (dss_one (ds_ret (de_tup (da_cons de_str (da_cons (de_var 4) (da_cons (de_op op_mod od_mod (de_op op_mulD od_mul (de_var 5) (de_ix (de_var 0) de_int)) (de_var 2)) (da_cons (de_var 6) da_nil))))))) dss_nil)
 (dss_one (ds_ret (de_tup (da_cons de_str (da_cons (de_var 4) (da_cons (de_var 5) (da_cons (de_op op_addD od_add (de_var 6) (de_tup (da_cons (de_tup (da_cons de_str (da_cons (de_ix (de_var 0) de_int) da_nil))) da_nil))) da_nil)))))))))
theorem d_leaf_step {P : Program} {w : World} {K : PySem.W.Frag} {mg : Str → Option Value} {base : Heap} {f : Addr} {fd : FuncData} (F : FunD K "leaf_step" "leaf_step" (defArgs s_leaf_step) (defBody s_leaf_step) (defScope s_leaf_step) [] [] f fd) (hmg : mg "leaf_step" = some (.ref f)) : Dfn P w K mg base 1 "leaf_step" 3 m_leaf_step :=
  dfn_of F hmg (FunD.bindsN F fun _ _ _ _ _ _ us hl => match us, hl with | [_, _, _], _ => rfl) (w_leaf_step F)

abbrev N_product_tasks : List Str := ["first", "second", "task", "modulus", "_", "target", "coefficient", "factors", "spare", "used", "through", "tasks", "passes", "sign", "part", "node"]
abbrev P_product_tasks : List Str := ["first", "second", "task", "modulus"]
theorem sc_product_tasks : FnScope N_product_tasks P_product_tasks (defScope s_product_tasks) := ⟨rfl, rfl, rfl, by decide +kernel, rfl, by decide +kernel, by decide +kernel⟩
noncomputable def g_product_tasks : SF := (sSeq (sAsgT [4, 5, 6, 7, 8] (eVar 2))
 (sSeq (sAsg 9 (eIf (tTru (eVar 7)) (eOp ixG (eOp ixG (eVar 7) (eC (.int 0))) (eC (.int 1))) (eOp subG (eOp subG (eC (.int 3)) (eVar 5)) (eVar 8))))
 (sSeq (sAsg 10 (eTup (aCons (eTup (aCons (eC (.str "cell")) (aCons (eVar 8) aNil))) aNil)))
 (sSeq (sAsg 11 (eLst aNil))
 (sSeq (sFor (rng1 (eC (.int 2))) (.nm 12) (sSeq (sAsg 13 (eIf (tVal (eOp eqG (eVar 12) (eC (.int 0)))) (eUn negG (eC (.int 1))) (eC (.int 1))))
 (sSeq (sFor (seqI (eVar 0)) (.tp [14, 15]) (sDrop (eLm appendG (eVar 11) (aCons (eTup (aCons (eVar 15) (aCons (eVar 5) (aCons (eOp modG (eOp mulG (eOp mulG (eVar 13) (eVar 14)) (eVar 6)) (eVar 3)) (aCons (eVar 10) (aCons (eVar 9) aNil)))))) aNil))))
 (sFor (seqI (eVar 1)) (.tp [14, 15]) (sDrop (eLm appendG (eVar 11) (aCons (eTup (aCons (eVar 15) (aCons (eVar 8) (aCons (eOp modG (eOp mulG (eUn negG (eVar 13)) (eVar 14)) (eVar 3)) (aCons (eVar 7) (aCons (eVar 5) aNil)))))) aNil)))))))
 (sRet (eVar 11)))))))
noncomputable def m_product_tasks : List D → Hd → Option (Rs D) := mir N_product_tasks.length P_product_tasks.length g_product_tasks
theorem w_product_tasks {P : Program} {w : World} {K : PySem.W.Frag} {mg : Str → Option Value} {base : Heap} {f : Addr} {fd : FuncData} (F : FunD K "product_tasks" "product_tasks" (defArgs s_product_tasks) (defBody s_product_tasks) (defScope s_product_tasks) [] [] f fd) (b_range : mg "range" = none) : FnOk P w K mg base (L2.CX P w) 1 f fd P_product_tasks (spD K mg 4 m_product_tasks) := by
  refine fn_mk (k := 0) (g := g_product_tasks) F sc_product_tasks fun cdv A outer s H E hr => ?_
  have nd := sc_product_tasks.nd
  have tk : Takes (cxOf (L2.CX P w) P w K mg base N_product_tasks "product_tasks" (defScope s_product_tasks) f cdv A outer s H E) (fun cls d _ H => E cls d H) := takes_of rfl rfl rfl rfl
  have po : PassesOwn (model P w) (cxOf (L2.CX P w) P w K mg base N_product_tasks "product_tasks" (defScope s_product_tasks) f cdv A outer s H E).A (cxOf (L2.CX P w) P w K mg base N_product_tasks "product_tasks" (defScope s_product_tasks) f cdv A outer s H E).env (cxOf (L2.CX P w) P w K mg base N_product_tasks "product_tasks" (defScope s_product_tasks) f cdv A outer s H E).xe := passes_of rfl
  exact (dss_cons (ds_asgT (de_var 2) (dg_tp rfl (dgs_cons 4 nd (dgs_cons 5 nd (dgs_cons 6 nd (dgs_cons 7 nd (dgs_cons 8 nd dgs_nil)))))))
 (dss_cons (ds_set 9 nd (de_if (dt_tru (de_var 7)) (de_ix (de_ix (de_var 7) de_int) de_int) (de_op op_sub od_sub (de_op op_sub od_sub de_int (de_var 5)) (de_var 8))))
 (dss_cons (ds_set 10 nd (de_tup (da_cons (de_tup (da_cons de_str (da_cons (de_var 8) da_nil))) da_nil)))
 (dss_cons (ds_set 11 nd (de_lst da_nil))
 (dss_cons (ds_for po rfl (di_rng1 de_int b_range) (dg_nm 12 nd) (dss_cons (ds_set 13 nd (de_if (dt_cmp (op_eqP hr.units) od_eq (de_var 12) de_int) (de_un un_neg ou_neg de_int) de_int))
 (dss_cons (ds_for po rfl (di_seq (de_var 0)) (dg_tp rfl (dgs_cons 14 nd (dgs_cons 15 nd dgs_nil))) (dss_one (ds_drop (de_append (de_var 11) (da_cons (de_tup (da_cons (de_var 15) (da_cons (de_var 5) (da_cons (de_op op_mod od_mod (de_op op_mulD od_mul (de_op op_mulD od_mul (de_var 13) (de_var 14)) (de_var 6)) (de_var 3)) (da_cons (de_var 10) (da_cons (de_var 9) da_nil)))))) da_nil)))))
 (dss_one (ds_for po rfl (di_seq (de_var 1)) (dg_tp rfl (dgs_cons 14 nd (dgs_cons 15 nd dgs_nil))) (dss_one (ds_drop (de_append (de_var 11) (da_cons (de_tup (da_cons (de_var 15) (da_cons (de_var 8) (da_cons (de_op op_mod od_mod (de_op op_mulD od_mul (de_un un_neg ou_neg (de_var 13)) (de_var 14)) (de_var 3)) (da_cons (de_var 7) (da_cons (de_var 5) da_nil)))))) da_nil)))))))))
 (dss_one (ds_ret (de_var 11))))))))
theorem d_product_tasks {P : Program} {w : World} {K : PySem.W.Frag} {mg : Str → Option Value} {base : Heap} {f : Addr} {fd : FuncData} (F : FunD K "product_tasks" "product_tasks" (defArgs s_product_tasks) (defBody s_product_tasks) (defScope s_product_tasks) [] [] f fd) (hmg : mg "product_tasks" = some (.ref f)) (b_range : mg "range" = none) : Dfn P w K mg base 1 "product_tasks" 4 m_product_tasks :=
  dfn_of F hmg (FunD.bindsN F fun _ _ _ _ _ _ us hl => match us, hl with | [_, _, _, _], _ => rfl) (w_product_tasks F b_range)

abbrev N_inner_tasks : List Str := ["node", "task", "modulus", "_", "target", "coefficient", "factors", "spare", "alone", "both", "part"]
abbrev P_inner_tasks : List Str := ["node", "task", "modulus"]
theorem sc_inner_tasks : FnScope N_inner_tasks P_inner_tasks (defScope s_inner_tasks) := ⟨rfl, rfl, rfl, by decide +kernel, rfl, by decide +kernel, by decide +kernel⟩
noncomputable def g_inner_tasks : SF := (sSeq (sAsgT [3, 4, 5, 6, 7] (eVar 1))
 (sSeq (sIf (tVal (eOp eqG (eOp ixG (eVar 0) (eC (.int 0))) (eC (.str "scaled")))) (sRet (eLst (aCons (eTup (aCons (eOp ixG (eVar 0) (eC (.int 2))) (aCons (eVar 4) (aCons (eOp modG (eOp mulG (eVar 5) (eOp ixG (eVar 0) (eC (.int 1)))) (eVar 2)) (aCons (eVar 6) (aCons (eVar 7) aNil)))))) aNil))) sNil)
 (sSeq (sIf (tVal (eOp eqG (eOp ixG (eVar 0) (eC (.int 0))) (eC (.str "sum")))) (sRet (eLc (seqI (eSl (eVar 0) (oSome (eC (.int 1))) oNone)) (.nm 10) tYes (eTup (aCons (eVar 10) (aCons (eVar 4) (aCons (eVar 5) (aCons (eVar 6) (aCons (eVar 7) aNil)))))) [10])) sNil)
 (sSeq (sIf (tVal (eOp eqG (eOp ixG (eVar 0) (eC (.int 0))) (eC (.str "product")))) (sRet (eCall m_product_tasks (aCons (eLst (aCons (eTup (aCons (eC (.int 1)) (aCons (eOp ixG (eVar 0) (eC (.int 1))) aNil))) aNil)) (aCons (eLst (aCons (eTup (aCons (eC (.int 1)) (aCons (eOp ixG (eVar 0) (eC (.int 2))) aNil))) aNil)) (aCons (eVar 1) (aCons (eVar 2) aNil)))))) sNil)
 (sSeq (sAsg 8 (eLst (aCons (eTup (aCons (eOp ixG (eVar 0) (eC (.int 3))) (aCons (eVar 4) (aCons (eVar 5) (aCons (eVar 6) (aCons (eVar 7) aNil)))))) aNil)))
 (sSeq (sAsg 9 (eLst (aCons (eTup (aCons (eC (.int 1)) (aCons (eOp ixG (eVar 0) (eC (.int 2))) aNil))) (aCons (eTup (aCons (eUn negG (eC (.int 1))) (aCons (eOp ixG (eVar 0) (eC (.int 3))) aNil))) aNil))))
 (sRet (eOp addG (eVar 8) (eCall m_product_tasks (aCons (eLst (aCons (eTup (aCons (eC (.int 1)) (aCons (eOp ixG (eVar 0) (eC (.int 1))) aNil))) aNil)) (aCons (eVar 9) (aCons (eVar 1) (aCons (eVar 2) aNil)))))))))))))
noncomputable def m_inner_tasks : List D → Hd → Option (Rs D) := mir N_inner_tasks.length P_inner_tasks.length g_inner_tasks
theorem w_inner_tasks {P : Program} {w : World} {K : PySem.W.Frag} {mg : Str → Option Value} {base : Heap} {f : Addr} {fd : FuncData} (F : FunD K "inner_tasks" "inner_tasks" (defArgs s_inner_tasks) (defBody s_inner_tasks) (defScope s_inner_tasks) [] [] f fd) (F_product_tasks : Dfn P w K mg base 1 "product_tasks" 4 m_product_tasks) : FnOk P w K mg base (L2.CX P w) 2 f fd P_inner_tasks (spD K mg 3 m_inner_tasks) := by
  refine fn_mk (k := 1) (g := g_inner_tasks) F sc_inner_tasks fun cdv A outer s H E hr => ?_
  have nd := sc_inner_tasks.nd
  have tk : Takes (cxOf (L2.CX P w) P w K mg base N_inner_tasks "inner_tasks" (defScope s_inner_tasks) f cdv A outer s H E) (fun cls d _ H => E cls d H) := takes_of rfl rfl rfl rfl
  have po : PassesOwn (model P w) (cxOf (L2.CX P w) P w K mg base N_inner_tasks "inner_tasks" (defScope s_inner_tasks) f cdv A outer s H E).A (cxOf (L2.CX P w) P w K mg base N_inner_tasks "inner_tasks" (defScope s_inner_tasks) f cdv A outer s H E).env (cxOf (L2.CX P w) P w K mg base N_inner_tasks "inner_tasks" (defScope s_inner_tasks) f cdv A outer s H E).xe := passes_of rfl
  exact (dss_cons (ds_asgT (de_var 1) (dg_tp rfl (dgs_cons 3 nd (dgs_cons 4 nd (dgs_cons 5 nd (dgs_cons 6 nd (dgs_cons 7 nd dgs_nil)))))))
 (dss_cons (ds_if (dt_cmp (op_eqP hr.units) od_eq (de_ix (de_var 0) de_int) de_str) (dss_one (ds_ret (de_lst (da_cons (de_tup (da_cons (de_ix (de_var 0) de_int) (da_cons (de_var 4) (da_cons (de_op op_mod od_mod (de_op op_mulD od_mul (de_var 5) (de_ix (de_var 0) de_int)) (de_var 2)) (da_cons (de_var 6) (da_cons (de_var 7) da_nil)))))) da_nil)))) dss_nil)
 (dss_cons (ds_if (dt_cmp (op_eqP hr.units) od_eq (de_ix (de_var 0) de_int) de_str) (dss_one (ds_ret (de_lc (own := [("part", 10)]) rfl nd (di_seq (de_slice (de_var 0) (do_some de_int) do_none)) (blkOk_by (own := [("part", 10)]) (N := N_inner_tasks) (sc := defScope s_inner_tasks) (by decide +kernel)) (by decide) (fun _ _ _ _ _ => (dg_nm 10 nd)) (fun _ _ _ _ _ => dts_nil) (fun _ _ _ _ _ => (de_tup (da_cons (de_var 10) (da_cons (de_var 4) (da_cons (de_var 5) (da_cons (de_var 6) (da_cons (de_var 7) da_nil)))))))))) dss_nil)
 (dss_cons (ds_if (dt_cmp (op_eqP hr.units) od_eq (de_ix (de_var 0) de_int) de_str) (dss_one (ds_ret (de_call (F_product_tasks.mono (by decide)) tk hr (da_cons (de_lst (da_cons (de_tup (da_cons de_int (da_cons (de_ix (de_var 0) de_int) da_nil))) da_nil)) (da_cons (de_lst (da_cons (de_tup (da_cons de_int (da_cons (de_ix (de_var 0) de_int) da_nil))) da_nil)) (da_cons (de_var 1) (da_cons (de_var 2) da_nil))))))) dss_nil)
 (dss_cons (ds_set 8 nd (de_lst (da_cons (de_tup (da_cons (de_ix (de_var 0) de_int) (da_cons (de_var 4) (da_cons (de_var 5) (da_cons (de_var 6) (da_cons (de_var 7) da_nil)))))) da_nil)))
 (dss_cons (ds_set 9 nd (de_lst (da_cons (de_tup (da_cons de_int (da_cons (de_ix (de_var 0) de_int) da_nil))) (da_cons (de_tup (da_cons (de_un un_neg ou_neg de_int) (da_cons (de_ix (de_var 0) de_int) da_nil))) da_nil))))
 (dss_one (ds_ret (de_op op_addD od_add (de_var 8) (de_call (F_product_tasks.mono (by decide)) tk hr (da_cons (de_lst (da_cons (de_tup (da_cons de_int (da_cons (de_ix (de_var 0) de_int) da_nil))) da_nil)) (da_cons (de_var 9) (da_cons (de_var 1) (da_cons (de_var 2) da_nil))))))))))))))
theorem d_inner_tasks {P : Program} {w : World} {K : PySem.W.Frag} {mg : Str → Option Value} {base : Heap} {f : Addr} {fd : FuncData} (F : FunD K "inner_tasks" "inner_tasks" (defArgs s_inner_tasks) (defBody s_inner_tasks) (defScope s_inner_tasks) [] [] f fd) (hmg : mg "inner_tasks" = some (.ref f)) (F_product_tasks : Dfn P w K mg base 1 "product_tasks" 4 m_product_tasks) : Dfn P w K mg base 2 "inner_tasks" 3 m_inner_tasks :=
  dfn_of F hmg (FunD.bindsN F fun _ _ _ _ _ _ us hl => match us, hl with | [_, _, _], _ => rfl) (w_inner_tasks F F_product_tasks)

abbrev N_compile_source : List Str := ["source", "modulus", "total", "empty", "steps", "tasks", "task", "node"]
abbrev P_compile_source : List Str := ["source", "modulus"]
theorem sc_compile_source : FnScope N_compile_source P_compile_source (defScope s_compile_source) := ⟨rfl, rfl, rfl, by decide +kernel, rfl, by decide +kernel, by decide +kernel⟩
noncomputable def g_compile_source : SF := (sSeq (sAsg 2 (eCall m_cost (aCons (eVar 0) aNil)))
 (sSeq (sAsg 3 (eMake "Program" m_Program___init__ (aCons (eVar 1) (aCons (eC (.int 3)) (aCons (eCall m_needs (aCons (eVar 0) aNil)) (aCons (eLst aNil) aNil))))))
 (sSeq (sIf (tVal (eOp gtG (eVar 2) (eC (.int 20000)))) (sRaise "TooLong") sNil)
 (sSeq (sAsg 4 (eLst aNil))
 (sSeq (sAsg 5 (eLst (aCons (eTup (aCons (eOp subG (eUn lenD (eVar 0)) (eC (.int 1))) (aCons (eC (.int 0)) (aCons (eC (.int 1)) (aCons (eTup aNil) (aCons (eC (.int 1)) aNil)))))) aNil)))
 (sSeq (sWhile (tTru (eVar 5)) (sSeq (sAsg 6 (eLm popG (eVar 5) aNil))
 (sSeq (sAsg 7 (eOp ixG (eVar 0) (eOp ixG (eVar 6) (eC (.int 0)))))
 (sIf (tOr (tVal (eOp eqG (eOp ixG (eVar 7) (eC (.int 0))) (eC (.str "const")))) (tVal (eOp eqG (eOp ixG (eVar 7) (eC (.int 0))) (eC (.str "input"))))) (sDrop (eLm appendG (eVar 4) (aCons (eCall m_leaf_step (aCons (eVar 7) (aCons (eVar 6) (aCons (eVar 1) aNil)))) aNil))) (sDrop (eLm extendG (eVar 5) (aCons (eUn revG (eCall m_inner_tasks (aCons (eVar 7) (aCons (eVar 6) (aCons (eVar 1) aNil))))) aNil)))))))
 (sRet (eMake "Program" m_Program___init__ (aCons (eVar 1) (aCons (eC (.int 3)) (aCons (eUn (fldG "Program" "inputs") (eVar 3)) (aCons (eVar 4) aNil))))))))))))
noncomputable def m_compile_source : List D → Hd → Option (Rs D) := mir N_compile_source.length P_compile_source.length g_compile_source
theorem w_compile_source {P : Program} {w : World} {K : PySem.W.Frag} {mg : Str → Option Value} {base : Heap} {f : Addr} {fd : FuncData} (F : FunD K "compile_source" "compile_source" (defArgs s_compile_source) (defBody s_compile_source) (defScope s_compile_source) [] [] f fd) (b_len : mg "len" = none) (c_MOST_three : ∃ u, mg "MOST_three" = some u ∧ RelV (.int  20000) u) (F_cost : Dfn P w K mg base 5 "cost" 1 m_cost) (F_needs : Dfn P w K mg base 5 "needs" 1 m_needs) (F_Program___init__ : MkI P w K mg base 7 "Program" 5 m_Program___init__) (F_leaf_step : Dfn P w K mg base 1 "leaf_step" 3 m_leaf_step) (F_inner_tasks : Dfn P w K mg base 2 "inner_tasks" 3 m_inner_tasks) (x_TooLong : XCl K mg "TooLong") (cf_Program : ClsK K mg "Program" ["modulus", "cells", "inputs", "steps"]) : FnOk P w K mg base (L2.CX P w) 9 f fd P_compile_source (spD K mg 2 m_compile_source) := by
  refine fn_mk (k := 8) (g := g_compile_source) F sc_compile_source fun cdv A outer s H E hr => ?_
  have nd := sc_compile_source.nd
  have tk : Takes (cxOf (L2.CX P w) P w K mg base N_compile_source "compile_source" (defScope s_compile_source) f cdv A outer s H E) (fun cls d _ H => E cls d H) := takes_of rfl rfl rfl rfl
  have po : PassesOwn (model P w) (cxOf (L2.CX P w) P w K mg base N_compile_source "compile_source" (defScope s_compile_source) f cdv A outer s H E).A (cxOf (L2.CX P w) P w K mg base N_compile_source "compile_source" (defScope s_compile_source) f cdv A outer s H E).env (cxOf (L2.CX P w) P w K mg base N_compile_source "compile_source" (defScope s_compile_source) f cdv A outer s H E).xe := passes_of rfl
  exact (dss_cons (ds_set 2 nd (de_call (F_cost.mono (by decide)) tk hr (da_cons (de_var 0) da_nil)))
 (dss_cons (ds_set 3 nd (de_make (F_Program___init__.mono (by decide)) tk hr (da_cons (de_var 1) (da_cons de_int (da_cons (de_call (F_needs.mono (by decide)) tk hr (da_cons (de_var 0) da_nil)) (da_cons (de_lst da_nil) da_nil))))))
 (dss_cons (ds_if (dt_cmp op_gt od_gt (de_var 2) (de_gi c_MOST_three)) (dss_one (ds_raise rfl tk x_TooLong)) dss_nil)
 (dss_cons (ds_set 4 nd (de_lst da_nil))
 (dss_cons (ds_set 5 nd (de_lst (da_cons (de_tup (da_cons (de_op op_sub od_sub (de_len (de_var 0) b_len) de_int) (da_cons de_int (da_cons de_int (da_cons (de_tup da_nil) (da_cons de_int da_nil)))))) da_nil)))
 (dss_cons (ds_while (hp := po) (dt_tru (de_var 5)) (dss_cons (ds_set 6 nd (de_pop (de_var 5)))
 (dss_cons (ds_set 7 nd (de_ix (de_var 0) (de_ix (de_var 6) de_int)))
 (dss_one (ds_if (dt_w (dw_or (dt_cmp (op_eqP hr.units) od_eq (de_ix (de_var 7) de_int) de_str) (dw_or1 (dt_cmp (op_eqP hr.units) od_eq (de_ix (de_var 7) de_int) de_str)))) (dss_one (ds_drop (de_append (de_var 4) (da_cons (de_call (F_leaf_step.mono (by decide)) tk hr (da_cons (de_var 7) (da_cons (de_var 6) (da_cons (de_var 1) da_nil)))) da_nil)))) (dss_one (ds_drop (de_extend (de_var 5) (da_cons (de_rev (de_call (F_inner_tasks.mono (by decide)) tk hr (da_cons (de_var 7) (da_cons (de_var 6) (da_cons (de_var 1) da_nil))))) da_nil)))))))))
 (dss_one (ds_ret (de_make (F_Program___init__.mono (by decide)) tk hr (da_cons (de_var 1) (da_cons de_int (da_cons (de_fld cf_Program (List.Mem.tail _ (List.Mem.tail _ (List.Mem.head _))) (de_var 3)) (da_cons (de_var 4) da_nil)))))))))))))
theorem d_compile_source {P : Program} {w : World} {K : PySem.W.Frag} {mg : Str → Option Value} {base : Heap} {f : Addr} {fd : FuncData} (F : FunD K "compile_source" "compile_source" (defArgs s_compile_source) (defBody s_compile_source) (defScope s_compile_source) [] [] f fd) (hmg : mg "compile_source" = some (.ref f)) (b_len : mg "len" = none) (c_MOST_three : ∃ u, mg "MOST_three" = some u ∧ RelV (.int  20000) u) (F_cost : Dfn P w K mg base 5 "cost" 1 m_cost) (F_needs : Dfn P w K mg base 5 "needs" 1 m_needs) (F_Program___init__ : MkI P w K mg base 7 "Program" 5 m_Program___init__) (F_leaf_step : Dfn P w K mg base 1 "leaf_step" 3 m_leaf_step) (F_inner_tasks : Dfn P w K mg base 2 "inner_tasks" 3 m_inner_tasks) (x_TooLong : XCl K mg "TooLong") (cf_Program : ClsK K mg "Program" ["modulus", "cells", "inputs", "steps"]) : Dfn P w K mg base 9 "compile_source" 2 m_compile_source :=
  dfn_of F hmg (FunD.bindsN F fun _ _ _ _ _ _ us hl => match us, hl with | [_, _], _ => rfl) (w_compile_source F b_len c_MOST_three F_cost F_needs F_Program___init__ F_leaf_step F_inner_tasks x_TooLong cf_Program)

abbrev N_Program___len__ : List Str := ["self"]
abbrev P_Program___len__ : List Str := ["self"]
theorem sc_Program___len__ : FnScope N_Program___len__ P_Program___len__ (defScope s_Program___len__) := ⟨rfl, rfl, rfl, by decide +kernel, rfl, by decide +kernel, by decide +kernel⟩
noncomputable def g_Program___len__ : SF := (sRet (eUn lenD (eUn (fldG "Program" "steps") (eVar 0))))
noncomputable def m_Program___len__ : List D → Hd → Option (Rs D) := mir N_Program___len__.length P_Program___len__.length g_Program___len__
theorem w_Program___len__ {P : Program} {w : World} {K : PySem.W.Frag} {mg : Str → Option Value} {base : Heap} {f : Addr} {fd : FuncData} (F : FunD K "__len__" "Program.__len__" (defArgs s_Program___len__) (defBody s_Program___len__) (defScope s_Program___len__) [] [] f fd) (b_len : mg "len" = none) (cf_Program : ClsK K mg "Program" ["modulus", "cells", "inputs", "steps"]) : FnOk P w K mg base (L2.CX P w) 1 f fd P_Program___len__ (spD K mg 1 m_Program___len__) := by
  refine fn_mk (k := 0) (g := g_Program___len__) F sc_Program___len__ fun cdv A outer s H E hr => ?_
  have nd := sc_Program___len__.nd
  have tk : Takes (cxOf (L2.CX P w) P w K mg base N_Program___len__ "Program.__len__" (defScope s_Program___len__) f cdv A outer s H E) (fun cls d _ H => E cls d H) := takes_of rfl rfl rfl rfl
  have po : PassesOwn (model P w) (cxOf (L2.CX P w) P w K mg base N_Program___len__ "Program.__len__" (defScope s_Program___len__) f cdv A outer s H E).A (cxOf (L2.CX P w) P w K mg base N_Program___len__ "Program.__len__" (defScope s_Program___len__) f cdv A outer s H E).env (cxOf (L2.CX P w) P w K mg base N_Program___len__ "Program.__len__" (defScope s_Program___len__) f cdv A outer s H E).xe := passes_of rfl
  exact (dss_one (ds_ret (de_len (de_fld cf_Program (List.Mem.tail _ (List.Mem.tail _ (List.Mem.tail _ (List.Mem.head _)))) (de_var 0)) b_len)))
theorem d_Program___len__ {P : Program} {w : World} {K : PySem.W.Frag} {mg : Str → Option Value} {base : Heap} {f : Addr} {fd : FuncData} (F : FunD K "__len__" "Program.__len__" (defArgs s_Program___len__) (defBody s_Program___len__) (defScope s_Program___len__) [] [] f fd) {C : Addr} (hC : mg "Program" = some (.ref C)) (hcl : Cls K C) (hm : Meth K C "__len__" f) (b_len : mg "len" = none) (cf_Program : ClsK K mg "Program" ["modulus", "cells", "inputs", "steps"]) : Mth P w K mg base 1 "Program" "__len__" 1 m_Program___len__ :=
  ⟨fun ds M o e => mir_len e, C, f, fd, P_Program___len__, hC, hcl, hm, (FunD.bindsN F fun _ _ _ _ _ _ us hl => match us, hl with | [_], _ => rfl), (w_Program___len__ F b_len cf_Program)⟩

abbrev N__law_changed : List Str := ["_law_draws", "_law_steps", "_law_prime", "_law_at", "_law_pick", "_law_held", "_law_step"]
abbrev P__law_changed : List Str := ["_law_draws", "_law_steps", "_law_prime"]
theorem sc__law_changed : FnScope N__law_changed P__law_changed (defScope s__law_changed) := ⟨rfl, rfl, rfl, by decide +kernel, rfl, by decide +kernel, by decide +kernel⟩
noncomputable def g__law_changed : SF := (sSeq (sAsg 1 (eUn listG (eVar 1)))
 (sSeq (sAsg 3 (eOp modG (eCall m__law_draw (aCons (eVar 0) aNil)) (eUn lenD (eVar 1))))
 (sSeq (sAsg 4 (eOp modG (eCall m__law_draw (aCons (eVar 0) aNil)) (eC (.int 4))))
 (sSeq (sIf (tVal (eOp eqG (eVar 4) (eC (.int 0)))) (sDrop (eLm popAtG (eVar 1) (aCons (eVar 3) aNil))) (sIf (tVal (eOp eqG (eVar 4) (eC (.int 1)))) (sDrop (eLm insertG (eVar 1) (aCons (eVar 3) (aCons (eOp ixG (eVar 1) (eVar 3)) aNil)))) (sIf (tAnd (tVal (eOp eqG (eVar 4) (eC (.int 2)))) (tVal (eOp ltG (eOp addG (eVar 3) (eC (.int 1))) (eUn lenD (eVar 1))))) (sSeq (sAsg 5 (eOp ixG (eVar 1) (eVar 3)))
 (sSeq (sSetI (eOp ixG (eVar 1) (eOp addG (eVar 3) (eC (.int 1)))) (eVar 1) (eVar 3))
 (sSetI (eVar 5) (eVar 1) (eOp addG (eVar 3) (eC (.int 1)))))) (sSeq (sAsg 6 (eOp ixG (eVar 1) (eVar 3)))
 (sSetI (eTup (aCons (eOp ixG (eVar 6) (eC (.int 0))) (aCons (eOp ixG (eVar 6) (eC (.int 1))) (aCons (eOp modG (eOp addG (eOp ixG (eVar 6) (eC (.int 2))) (eC (.int 1))) (eVar 2)) (aCons (eOp ixG (eVar 6) (eC (.int 3))) aNil))))) (eVar 1) (eVar 3))))))
 (sRet (eVar 1))))))
noncomputable def m__law_changed : List D → Hd → Option (Rs D) := mir N__law_changed.length P__law_changed.length g__law_changed
theorem w__law_changed {P : Program} {w : World} {K : PySem.W.Frag} {mg : Str → Option Value} {base : Heap} {f : Addr} {fd : FuncData} (F : FunD K "_law_changed" "_law_changed" (defArgs s__law_changed) (defBody s__law_changed) (defScope s__law_changed) [] [] f fd) (b_list : mg "list" = none) (b_len : mg "len" = none) (F__law_draw : Dfn P w K mg base 2 "_law_draw" 1 m__law_draw) : FnOk P w K mg base (L2.CX P w) 3 f fd P__law_changed (spD K mg 3 m__law_changed) := by
  refine fn_mk (k := 2) (g := g__law_changed) F sc__law_changed fun cdv A outer s H E hr => ?_
  have nd := sc__law_changed.nd
  have tk : Takes (cxOf (L2.CX P w) P w K mg base N__law_changed "_law_changed" (defScope s__law_changed) f cdv A outer s H E) (fun cls d _ H => E cls d H) := takes_of rfl rfl rfl rfl
  have po : PassesOwn (model P w) (cxOf (L2.CX P w) P w K mg base N__law_changed "_law_changed" (defScope s__law_changed) f cdv A outer s H E).A (cxOf (L2.CX P w) P w K mg base N__law_changed "_law_changed" (defScope s__law_changed) f cdv A outer s H E).env (cxOf (L2.CX P w) P w K mg base N__law_changed "_law_changed" (defScope s__law_changed) f cdv A outer s H E).xe := passes_of rfl
  exact (dss_cons (ds_set 1 nd (de_list (de_var 1) b_list))
 (dss_cons (ds_set 3 nd (de_op op_mod od_mod (de_call (F__law_draw.mono (by decide)) tk hr (da_cons (de_var 0) da_nil)) (de_len (de_var 1) b_len)))
 (dss_cons (ds_set 4 nd (de_op op_mod od_mod (de_call (F__law_draw.mono (by decide)) tk hr (da_cons (de_var 0) da_nil)) de_int))
 (dss_cons (ds_if (dt_cmp (op_eqP hr.units) od_eq (de_var 4) de_int) (dss_one (ds_drop (de_popAt (de_var 1) (da_cons (de_var 3) da_nil)))) (dss_one (ds_if (dt_cmp (op_eqP hr.units) od_eq (de_var 4) de_int) (dss_one (ds_drop (de_insert (de_var 1) (da_cons (de_var 3) (da_cons (de_ix (de_var 1) (de_var 3)) da_nil))))) (dss_one (ds_if (dt_w (dw_and (dt_cmp (op_eqP hr.units) od_eq (de_var 4) de_int) (dw_and1 (dt_cmp op_lt od_lt (de_op op_addD od_add (de_var 3) de_int) (de_len (de_var 1) b_len))))) (dss_cons (ds_set 5 nd (de_ix (de_var 1) (de_var 3)))
 (dss_cons (ds_setI (de_ix (de_var 1) (de_op op_addD od_add (de_var 3) de_int)) (de_var 1) (de_var 3))
 (dss_one (ds_setI (de_var 5) (de_var 1) (de_op op_addD od_add (de_var 3) de_int))))) (dss_cons (ds_set 6 nd (de_ix (de_var 1) (de_var 3)))
 (dss_one (ds_setI (de_tup (da_cons (de_ix (de_var 6) de_int) (da_cons (de_ix (de_var 6) de_int) (da_cons (de_op op_mod od_mod (de_op op_addD od_add (de_ix (de_var 6) de_int) de_int) (de_var 2)) (da_cons (de_ix (de_var 6) de_int) da_nil))))) (de_var 1) (de_var 3)))))))))
 (dss_one (ds_ret (de_var 1)))))))
theorem d__law_changed {P : Program} {w : World} {K : PySem.W.Frag} {mg : Str → Option Value} {base : Heap} {f : Addr} {fd : FuncData} (F : FunD K "_law_changed" "_law_changed" (defArgs s__law_changed) (defBody s__law_changed) (defScope s__law_changed) [] [] f fd) (hmg : mg "_law_changed" = some (.ref f)) (b_list : mg "list" = none) (b_len : mg "len" = none) (F__law_draw : Dfn P w K mg base 2 "_law_draw" 1 m__law_draw) : Dfn P w K mg base 3 "_law_changed" 3 m__law_changed :=
  dfn_of F hmg (FunD.bindsN F fun _ _ _ _ _ _ us hl => match us, hl with | [_, _, _], _ => rfl) (w__law_changed F b_list b_len F__law_draw)

abbrev N__law_points : List Str := ["_law_prime", "_law_many", "_law_points_here", "_law_k", "_law_longer", "_law_point", "_law_number"]
abbrev P__law_points : List Str := ["_law_prime", "_law_many"]
theorem sc__law_points : FnScope N__law_points P__law_points (defScope s__law_points) := ⟨rfl, rfl, rfl, by decide +kernel, rfl, by decide +kernel, by decide +kernel⟩
noncomputable def g__law_points : SF := (sSeq (sAsg 2 (eLst (aCons (eLst aNil) aNil)))
 (sSeq (sFor (rng1 (eVar 1)) (.nm 3) (sSeq (sAsg 4 (eLst aNil))
 (sSeq (sFor (seqI (eVar 2)) (.nm 5) (sFor (rng1 (eVar 0)) (.nm 6) (sDrop (eLm appendG (eVar 4) (aCons (eOp addG (eVar 5) (eLst (aCons (eVar 6) aNil))) aNil)))))
 (sAsg 2 (eVar 4)))))
 (sRet (eVar 2))))
noncomputable def m__law_points : List D → Hd → Option (Rs D) := mir N__law_points.length P__law_points.length g__law_points
theorem w__law_points {P : Program} {w : World} {K : PySem.W.Frag} {mg : Str → Option Value} {base : Heap} {f : Addr} {fd : FuncData} (F : FunD K "_law_points" "_law_points" (defArgs s__law_points) (defBody s__law_points) (defScope s__law_points) [] [] f fd) (b_range : mg "range" = none) : FnOk P w K mg base (L2.CX P w) 1 f fd P__law_points (spD K mg 2 m__law_points) := by
  refine fn_mk (k := 0) (g := g__law_points) F sc__law_points fun cdv A outer s H E hr => ?_
  have nd := sc__law_points.nd
  have tk : Takes (cxOf (L2.CX P w) P w K mg base N__law_points "_law_points" (defScope s__law_points) f cdv A outer s H E) (fun cls d _ H => E cls d H) := takes_of rfl rfl rfl rfl
  have po : PassesOwn (model P w) (cxOf (L2.CX P w) P w K mg base N__law_points "_law_points" (defScope s__law_points) f cdv A outer s H E).A (cxOf (L2.CX P w) P w K mg base N__law_points "_law_points" (defScope s__law_points) f cdv A outer s H E).env (cxOf (L2.CX P w) P w K mg base N__law_points "_law_points" (defScope s__law_points) f cdv A outer s H E).xe := passes_of rfl
  exact (dss_cons (ds_set 2 nd (de_lst (da_cons (de_lst da_nil) da_nil)))
 (dss_cons (ds_for po rfl (di_rng1 (de_var 1) b_range) (dg_nm 3 nd) (dss_cons (ds_set 4 nd (de_lst da_nil))
 (dss_cons (ds_for po rfl (di_seq (de_var 2)) (dg_nm 5 nd) (dss_one (ds_for po rfl (di_rng1 (de_var 0) b_range) (dg_nm 6 nd) (dss_one (ds_drop (de_append (de_var 4) (da_cons (de_op op_addD od_add (de_var 5) (de_lst (da_cons (de_var 6) da_nil))) da_nil)))))))
 (dss_one (ds_set 2 nd (de_var 4))))))
 (dss_one (ds_ret (de_var 2)))))
theorem d__law_points {P : Program} {w : World} {K : PySem.W.Frag} {mg : Str → Option Value} {base : Heap} {f : Addr} {fd : FuncData} (F : FunD K "_law_points" "_law_points" (defArgs s__law_points) (defBody s__law_points) (defScope s__law_points) [] [] f fd) (hmg : mg "_law_points" = some (.ref f)) (b_range : mg "range" = none) : Dfn P w K mg base 1 "_law_points" 2 m__law_points :=
  dfn_of F hmg (FunD.bindsN F fun _ _ _ _ _ _ us hl => match us, hl with | [_, _], _ => rfl) (w__law_points F b_range)

abbrev N__law_worth : List Str := ["_law_factors", "_law_memory", "_law_given", "_law_modulus", "_law_worth_here", "_law_kind", "_law_at"]
abbrev P__law_worth : List Str := ["_law_factors", "_law_memory", "_law_given", "_law_modulus"]
theorem sc__law_worth : FnScope N__law_worth P__law_worth (defScope s__law_worth) := ⟨rfl, rfl, rfl, by decide +kernel, rfl, by decide +kernel, by decide +kernel⟩
noncomputable def g__law_worth : SF := (sSeq (sAsg 4 (eC (.int 1)))
 (sSeq (sFor (seqI (eVar 0)) (.tp [5, 6]) (sIf (tVal (eOp eqG (eVar 5) (eC (.str "cell")))) (sAsg 4 (eOp modG (eOp mulG (eVar 4) (eOp ixG (eVar 1) (eVar 6))) (eVar 3))) (sAsg 4 (eOp modG (eOp mulG (eVar 4) (eOp ixG (eVar 2) (eVar 6))) (eVar 3)))))
 (sRet (eVar 4))))
noncomputable def m__law_worth : List D → Hd → Option (Rs D) := mir N__law_worth.length P__law_worth.length g__law_worth
theorem w__law_worth {P : Program} {w : World} {K : PySem.W.Frag} {mg : Str → Option Value} {base : Heap} {f : Addr} {fd : FuncData} (F : FunD K "_law_worth" "_law_worth" (defArgs s__law_worth) (defBody s__law_worth) (defScope s__law_worth) [] [] f fd) : FnOk P w K mg base (L2.CX P w) 1 f fd P__law_worth (spD K mg 4 m__law_worth) := by
  refine fn_mk (k := 0) (g := g__law_worth) F sc__law_worth fun cdv A outer s H E hr => ?_
  have nd := sc__law_worth.nd
  have tk : Takes (cxOf (L2.CX P w) P w K mg base N__law_worth "_law_worth" (defScope s__law_worth) f cdv A outer s H E) (fun cls d _ H => E cls d H) := takes_of rfl rfl rfl rfl
  have po : PassesOwn (model P w) (cxOf (L2.CX P w) P w K mg base N__law_worth "_law_worth" (defScope s__law_worth) f cdv A outer s H E).A (cxOf (L2.CX P w) P w K mg base N__law_worth "_law_worth" (defScope s__law_worth) f cdv A outer s H E).env (cxOf (L2.CX P w) P w K mg base N__law_worth "_law_worth" (defScope s__law_worth) f cdv A outer s H E).xe := passes_of rfl
  exact (dss_cons (ds_set 4 nd de_int)
 (dss_cons (ds_for po rfl (di_seq (de_var 0)) (dg_tp rfl (dgs_cons 5 nd (dgs_cons 6 nd dgs_nil))) (dss_one (ds_if (dt_cmp (op_eqP hr.units) od_eq (de_var 5) de_str) (dss_one (ds_set 4 nd (de_op op_mod od_mod (de_op op_mulD od_mul (de_var 4) (de_ix (de_var 1) (de_var 6))) (de_var 3)))) (dss_one (ds_set 4 nd (de_op op_mod od_mod (de_op op_mulD od_mul (de_var 4) (de_ix (de_var 2) (de_var 6))) (de_var 3)))))))
 (dss_one (ds_ret (de_var 4)))))
theorem d__law_worth {P : Program} {w : World} {K : PySem.W.Frag} {mg : Str → Option Value} {base : Heap} {f : Addr} {fd : FuncData} (F : FunD K "_law_worth" "_law_worth" (defArgs s__law_worth) (defBody s__law_worth) (defScope s__law_worth) [] [] f fd) (hmg : mg "_law_worth" = some (.ref f)) : Dfn P w K mg base 1 "_law_worth" 4 m__law_worth :=
  dfn_of F hmg (FunD.bindsN F fun _ _ _ _ _ _ us hl => match us, hl with | [_, _, _, _], _ => rfl) (w__law_worth F)

abbrev N__law_run : List Str := ["_law_steps", "_law_modulus", "_law_memory", "_law_given", "_law_after", "_law_step", "_law_worth_here", "_law_held"]
abbrev P__law_run : List Str := ["_law_steps", "_law_modulus", "_law_memory", "_law_given"]
theorem sc__law_run : FnScope N__law_run P__law_run (defScope s__law_run) := ⟨rfl, rfl, rfl, by decide +kernel, rfl, by decide +kernel, by decide +kernel⟩
noncomputable def g__law_run : SF := (sSeq (sAsg 4 (eUn listG (eVar 2)))
 (sSeq (sFor (seqI (eVar 0)) (.nm 5) (sIf (tVal (eOp eqG (eOp ixG (eVar 5) (eC (.int 0))) (eC (.str "add")))) (sSeq (sAsg 6 (eCall m__law_worth (aCons (eOp ixG (eVar 5) (eC (.int 3))) (aCons (eVar 4) (aCons (eVar 3) (aCons (eVar 1) aNil))))))
 (sSetI (eOp modG (eOp addG (eOp ixG (eVar 4) (eOp ixG (eVar 5) (eC (.int 1)))) (eOp mulG (eOp ixG (eVar 5) (eC (.int 2))) (eVar 6))) (eVar 1)) (eVar 4) (eOp ixG (eVar 5) (eC (.int 1))))) (sIf (tVal (eOp eqG (eOp ixG (eVar 5) (eC (.int 0))) (eC (.str "scale")))) (sSetI (eOp modG (eOp mulG (eOp ixG (eVar 4) (eOp ixG (eVar 5) (eC (.int 1)))) (eOp ixG (eVar 5) (eC (.int 2)))) (eVar 1)) (eVar 4) (eOp ixG (eVar 5) (eC (.int 1)))) (sSeq (sAsg 7 (eOp ixG (eVar 4) (eOp ixG (eVar 5) (eC (.int 1)))))
 (sSeq (sSetI (eOp ixG (eVar 4) (eOp ixG (eVar 5) (eC (.int 2)))) (eVar 4) (eOp ixG (eVar 5) (eC (.int 1))))
 (sSetI (eVar 7) (eVar 4) (eOp ixG (eVar 5) (eC (.int 2)))))))))
 (sRet (eVar 4))))
noncomputable def m__law_run : List D → Hd → Option (Rs D) := mir N__law_run.length P__law_run.length g__law_run
theorem w__law_run {P : Program} {w : World} {K : PySem.W.Frag} {mg : Str → Option Value} {base : Heap} {f : Addr} {fd : FuncData} (F : FunD K "_law_run" "_law_run" (defArgs s__law_run) (defBody s__law_run) (defScope s__law_run) [] [] f fd) (b_list : mg "list" = none) (F__law_worth : Dfn P w K mg base 1 "_law_worth" 4 m__law_worth) : FnOk P w K mg base (L2.CX P w) 2 f fd P__law_run (spD K mg 4 m__law_run) := by
  refine fn_mk (k := 1) (g := g__law_run) F sc__law_run fun cdv A outer s H E hr => ?_
  have nd := sc__law_run.nd
  have tk : Takes (cxOf (L2.CX P w) P w K mg base N__law_run "_law_run" (defScope s__law_run) f cdv A outer s H E) (fun cls d _ H => E cls d H) := takes_of rfl rfl rfl rfl
  have po : PassesOwn (model P w) (cxOf (L2.CX P w) P w K mg base N__law_run "_law_run" (defScope s__law_run) f cdv A outer s H E).A (cxOf (L2.CX P w) P w K mg base N__law_run "_law_run" (defScope s__law_run) f cdv A outer s H E).env (cxOf (L2.CX P w) P w K mg base N__law_run "_law_run" (defScope s__law_run) f cdv A outer s H E).xe := passes_of rfl
  exact (dss_cons (ds_set 4 nd (de_list (de_var 2) b_list))
 (dss_cons (ds_for po rfl (di_seq (de_var 0)) (dg_nm 5 nd) (dss_one (ds_if (dt_cmp (op_eqP hr.units) od_eq (de_ix (de_var 5) de_int) de_str) (dss_cons (ds_set 6 nd (de_call (F__law_worth.mono (by decide)) tk hr (da_cons (de_ix (de_var 5) de_int) (da_cons (de_var 4) (da_cons (de_var 3) (da_cons (de_var 1) da_nil))))))
 (dss_one (ds_setI (de_op op_mod od_mod (de_op op_addD od_add (de_ix (de_var 4) (de_ix (de_var 5) de_int)) (de_op op_mulD od_mul (de_ix (de_var 5) de_int) (de_var 6))) (de_var 1)) (de_var 4) (de_ix (de_var 5) de_int)))) (dss_one (ds_if (dt_cmp (op_eqP hr.units) od_eq (de_ix (de_var 5) de_int) de_str) (dss_one (ds_setI (de_op op_mod od_mod (de_op op_mulD od_mul (de_ix (de_var 4) (de_ix (de_var 5) de_int)) (de_ix (de_var 5) de_int)) (de_var 1)) (de_var 4) (de_ix (de_var 5) de_int))) (dss_cons (ds_set 7 nd (de_ix (de_var 4) (de_ix (de_var 5) de_int)))
 (dss_cons (ds_setI (de_ix (de_var 4) (de_ix (de_var 5) de_int)) (de_var 4) (de_ix (de_var 5) de_int))
 (dss_one (ds_setI (de_var 7) (de_var 4) (de_ix (de_var 5) de_int))))))))))
 (dss_one (ds_ret (de_var 4)))))
theorem d__law_run {P : Program} {w : World} {K : PySem.W.Frag} {mg : Str → Option Value} {base : Heap} {f : Addr} {fd : FuncData} (F : FunD K "_law_run" "_law_run" (defArgs s__law_run) (defBody s__law_run) (defScope s__law_run) [] [] f fd) (hmg : mg "_law_run" = some (.ref f)) (b_list : mg "list" = none) (F__law_worth : Dfn P w K mg base 1 "_law_worth" 4 m__law_worth) : Dfn P w K mg base 2 "_law_run" 4 m__law_run :=
  dfn_of F hmg (FunD.bindsN F fun _ _ _ _ _ _ us hl => match us, hl with | [_, _, _, _], _ => rfl) (w__law_run F b_list F__law_worth)

abbrev N__law_first_spoilt : List Str := ["_law_prime", "_law_inputs", "_law_cells", "_law_steps", "_law_target", "_law_point", "_law_after", "_law_cell"]
abbrev P__law_first_spoilt : List Str := ["_law_prime", "_law_inputs", "_law_cells", "_law_steps", "_law_target"]
theorem sc__law_first_spoilt : FnScope N__law_first_spoilt P__law_first_spoilt (defScope s__law_first_spoilt) := ⟨rfl, rfl, rfl, by decide +kernel, rfl, by decide +kernel, by decide +kernel⟩
noncomputable def g__law_first_spoilt : SF := (sSeq (sFor (seqI (eCall m__law_points (aCons (eVar 0) (aCons (eOp addG (eVar 1) (eVar 2)) aNil)))) (.nm 5) (sSeq (sAsg 6 (eCall m__law_run (aCons (eVar 3) (aCons (eVar 0) (aCons (eSl (eVar 5) (oSome (eVar 1)) oNone) (aCons (eSl (eVar 5) oNone (oSome (eVar 1))) aNil))))))
 (sFor (rng1 (eVar 2)) (.nm 7) (sIf (tAnd (tVal (eOp neG (eVar 7) (eVar 4))) (tVal (eOp neG (eOp ixG (eVar 6) (eVar 7)) (eOp ixG (eVar 5) (eOp addG (eVar 1) (eVar 7)))))) (sRet (eTup (aCons (eC (.str "spoilt")) (aCons (eSl (eVar 5) oNone (oSome (eVar 1))) (aCons (eSl (eVar 5) (oSome (eVar 1)) oNone) (aCons (eVar 7) aNil)))))) sNil))))
 (sRet (eC .non)))
noncomputable def m__law_first_spoilt : List D → Hd → Option (Rs D) := mir N__law_first_spoilt.length P__law_first_spoilt.length g__law_first_spoilt
theorem w__law_first_spoilt {P : Program} {w : World} {K : PySem.W.Frag} {mg : Str → Option Value} {base : Heap} {f : Addr} {fd : FuncData} (F : FunD K "_law_first_spoilt" "_law_first_spoilt" (defArgs s__law_first_spoilt) (defBody s__law_first_spoilt) (defScope s__law_first_spoilt) [] [] f fd) (b_range : mg "range" = none) (F__law_points : Dfn P w K mg base 1 "_law_points" 2 m__law_points) (F__law_run : Dfn P w K mg base 2 "_law_run" 4 m__law_run) : FnOk P w K mg base (L2.CX P w) 3 f fd P__law_first_spoilt (spD K mg 5 m__law_first_spoilt) := by
  refine fn_mk (k := 2) (g := g__law_first_spoilt) F sc__law_first_spoilt fun cdv A outer s H E hr => ?_
  have nd := sc__law_first_spoilt.nd
  have tk : Takes (cxOf (L2.CX P w) P w K mg base N__law_first_spoilt "_law_first_spoilt" (defScope s__law_first_spoilt) f cdv A outer s H E) (fun cls d _ H => E cls d H) := takes_of rfl rfl rfl rfl
  have po : PassesOwn (model P w) (cxOf (L2.CX P w) P w K mg base N__law_first_spoilt "_law_first_spoilt" (defScope s__law_first_spoilt) f cdv A outer s H E).A (cxOf (L2.CX P w) P w K mg base N__law_first_spoilt "_law_first_spoilt" (defScope s__law_first_spoilt) f cdv A outer s H E).env (cxOf (L2.CX P w) P w K mg base N__law_first_spoilt "_law_first_spoilt" (defScope s__law_first_spoilt) f cdv A outer s H E).xe := passes_of rfl
  exact (dss_cons (ds_for po rfl (di_seq (de_call (F__law_points.mono (by decide)) tk hr (da_cons (de_var 0) (da_cons (de_op op_addD od_add (de_var 1) (de_var 2)) da_nil)))) (dg_nm 5 nd) (dss_cons (ds_set 6 nd (de_call (F__law_run.mono (by decide)) tk hr (da_cons (de_var 3) (da_cons (de_var 0) (da_cons (de_slice (de_var 5) (do_some (de_var 1)) do_none) (da_cons (de_slice (de_var 5) do_none (do_some (de_var 1))) da_nil))))))
 (dss_one (ds_for po rfl (di_rng1 (de_var 2) b_range) (dg_nm 7 nd) (dss_one (ds_if (dt_w (dw_and (dt_cmp (op_neP hr.units) od_ne (de_var 7) (de_var 4)) (dw_and1 (dt_cmp (op_neP hr.units) od_ne (de_ix (de_var 6) (de_var 7)) (de_ix (de_var 5) (de_op op_addD od_add (de_var 1) (de_var 7))))))) (dss_one (ds_ret (de_tup (da_cons de_str (da_cons (de_slice (de_var 5) do_none (do_some (de_var 1))) (da_cons (de_slice (de_var 5) (do_some (de_var 1)) do_none) (da_cons (de_var 7) da_nil))))))) dss_nil))))))
 (dss_one (ds_ret de_non)))
theorem d__law_first_spoilt {P : Program} {w : World} {K : PySem.W.Frag} {mg : Str → Option Value} {base : Heap} {f : Addr} {fd : FuncData} (F : FunD K "_law_first_spoilt" "_law_first_spoilt" (defArgs s__law_first_spoilt) (defBody s__law_first_spoilt) (defScope s__law_first_spoilt) [] [] f fd) (hmg : mg "_law_first_spoilt" = some (.ref f)) (b_range : mg "range" = none) (F__law_points : Dfn P w K mg base 1 "_law_points" 2 m__law_points) (F__law_run : Dfn P w K mg base 2 "_law_run" 4 m__law_run) : Dfn P w K mg base 3 "_law_first_spoilt" 5 m__law_first_spoilt :=
  dfn_of F hmg (FunD.bindsN F fun _ _ _ _ _ _ us hl => match us, hl with | [_, _, _, _, _], _ => rfl) (w__law_first_spoilt F b_range F__law_points F__law_run)

abbrev N__law_first_leaky : List Str := ["_law_prime", "_law_inputs", "_law_cells", "_law_steps", "_law_target", "_law_clear", "_law_point", "_law_first", "_law_after", "_law_k"]
abbrev P__law_first_leaky : List Str := ["_law_prime", "_law_inputs", "_law_cells", "_law_steps", "_law_target"]
theorem sc__law_first_leaky : FnScope N__law_first_leaky P__law_first_leaky (defScope s__law_first_leaky) := ⟨rfl, rfl, rfl, by decide +kernel, rfl, by decide +kernel, by decide +kernel⟩
noncomputable def g__law_first_leaky : SF := (sSeq (sAsg 5 (eLc (rng1 (eVar 2)) (.nm 9) tYes (eC (.int 0)) [9]))
 (sSeq (sFor (seqI (eCall m__law_points (aCons (eVar 0) (aCons (eOp addG (eVar 1) (eVar 2)) aNil)))) (.nm 6) (sSeq (sAsg 7 (eOp ixG (eCall m__law_run (aCons (eVar 3) (aCons (eVar 0) (aCons (eVar 5) (aCons (eSl (eVar 6) oNone (oSome (eVar 1))) aNil))))) (eVar 4)))
 (sSeq (sAsg 8 (eOp ixG (eCall m__law_run (aCons (eVar 3) (aCons (eVar 0) (aCons (eSl (eVar 6) (oSome (eVar 1)) oNone) (aCons (eSl (eVar 6) oNone (oSome (eVar 1))) aNil))))) (eVar 4)))
 (sIf (tVal (eOp neG (eOp modG (eOp subG (eOp subG (eVar 8) (eOp ixG (eVar 6) (eOp addG (eVar 1) (eVar 4)))) (eVar 7)) (eVar 0)) (eC (.int 0)))) (sRet (eTup (aCons (eC (.str "leaky")) (aCons (eSl (eVar 6) oNone (oSome (eVar 1))) (aCons (eVar 5) (aCons (eSl (eVar 6) (oSome (eVar 1)) oNone) aNil)))))) sNil))))
 (sRet (eC .non))))
noncomputable def m__law_first_leaky : List D → Hd → Option (Rs D) := mir N__law_first_leaky.length P__law_first_leaky.length g__law_first_leaky
theorem w__law_first_leaky {P : Program} {w : World} {K : PySem.W.Frag} {mg : Str → Option Value} {base : Heap} {f : Addr} {fd : FuncData} (F : FunD K "_law_first_leaky" "_law_first_leaky" (defArgs s__law_first_leaky) (defBody s__law_first_leaky) (defScope s__law_first_leaky) [] [] f fd) (b_range : mg "range" = none) (F__law_points : Dfn P w K mg base 1 "_law_points" 2 m__law_points) (F__law_run : Dfn P w K mg base 2 "_law_run" 4 m__law_run) : FnOk P w K mg base (L2.CX P w) 3 f fd P__law_first_leaky (spD K mg 5 m__law_first_leaky) := by
  refine fn_mk (k := 2) (g := g__law_first_leaky) F sc__law_first_leaky fun cdv A outer s H E hr => ?_
  have nd := sc__law_first_leaky.nd
  have tk : Takes (cxOf (L2.CX P w) P w K mg base N__law_first_leaky "_law_first_leaky" (defScope s__law_first_leaky) f cdv A outer s H E) (fun cls d _ H => E cls d H) := takes_of rfl rfl rfl rfl
  have po : PassesOwn (model P w) (cxOf (L2.CX P w) P w K mg base N__law_first_leaky "_law_first_leaky" (defScope s__law_first_leaky) f cdv A outer s H E).A (cxOf (L2.CX P w) P w K mg base N__law_first_leaky "_law_first_leaky" (defScope s__law_first_leaky) f cdv A outer s H E).env (cxOf (L2.CX P w) P w K mg base N__law_first_leaky "_law_first_leaky" (defScope s__law_first_leaky) f cdv A outer s H E).xe := passes_of rfl
  exact (dss_cons (ds_setLc (own := [("_law_k", 9)]) (i := 5) rfl nd rfl rfl (sw_true rfl rfl rfl (by decide +kernel)) (di_rng1 (de_var 2) b_range) (blkOk_by (own := [("_law_k", 9)]) (N := N__law_first_leaky) (sc := defScope s__law_first_leaky) (by decide +kernel)) (by decide) (fun _ _ _ _ _ => (dg_nm 9 nd)) (fun _ _ _ _ _ => dts_nil) (fun _ _ _ _ _ => de_int))
 (dss_cons (ds_for po rfl (di_seq (de_call (F__law_points.mono (by decide)) tk hr (da_cons (de_var 0) (da_cons (de_op op_addD od_add (de_var 1) (de_var 2)) da_nil)))) (dg_nm 6 nd) (dss_cons (ds_set 7 nd (de_ix (de_call (F__law_run.mono (by decide)) tk hr (da_cons (de_var 3) (da_cons (de_var 0) (da_cons (de_var 5) (da_cons (de_slice (de_var 6) do_none (do_some (de_var 1))) da_nil))))) (de_var 4)))
 (dss_cons (ds_set 8 nd (de_ix (de_call (F__law_run.mono (by decide)) tk hr (da_cons (de_var 3) (da_cons (de_var 0) (da_cons (de_slice (de_var 6) (do_some (de_var 1)) do_none) (da_cons (de_slice (de_var 6) do_none (do_some (de_var 1))) da_nil))))) (de_var 4)))
 (dss_one (ds_if (dt_cmp (op_neP hr.units) od_ne (de_op op_mod od_mod (de_op op_sub od_sub (de_op op_sub od_sub (de_var 8) (de_ix (de_var 6) (de_op op_addD od_add (de_var 1) (de_var 4)))) (de_var 7)) (de_var 0)) de_int) (dss_one (ds_ret (de_tup (da_cons de_str (da_cons (de_slice (de_var 6) do_none (do_some (de_var 1))) (da_cons (de_var 5) (da_cons (de_slice (de_var 6) (do_some (de_var 1)) do_none) da_nil))))))) dss_nil)))))
 (dss_one (ds_ret de_non))))
theorem d__law_first_leaky {P : Program} {w : World} {K : PySem.W.Frag} {mg : Str → Option Value} {base : Heap} {f : Addr} {fd : FuncData} (F : FunD K "_law_first_leaky" "_law_first_leaky" (defArgs s__law_first_leaky) (defBody s__law_first_leaky) (defScope s__law_first_leaky) [] [] f fd) (hmg : mg "_law_first_leaky" = some (.ref f)) (b_range : mg "range" = none) (F__law_points : Dfn P w K mg base 1 "_law_points" 2 m__law_points) (F__law_run : Dfn P w K mg base 2 "_law_run" 4 m__law_run) : Dfn P w K mg base 3 "_law_first_leaky" 5 m__law_first_leaky :=
  dfn_of F hmg (FunD.bindsN F fun _ _ _ _ _ _ us hl => match us, hl with | [_, _, _, _, _], _ => rfl) (w__law_first_leaky F b_range F__law_points F__law_run)

abbrev N__law_verdict : List Str := ["_law_prime", "_law_inputs", "_law_cells", "_law_steps", "_law_target", "_law_found"]
abbrev P__law_verdict : List Str := ["_law_prime", "_law_inputs", "_law_cells", "_law_steps", "_law_target"]
theorem sc__law_verdict : FnScope N__law_verdict P__law_verdict (defScope s__law_verdict) := ⟨rfl, rfl, rfl, by decide +kernel, rfl, by decide +kernel, by decide +kernel⟩
noncomputable def g__law_verdict : SF := (sSeq (sAsg 5 (eCall m__law_first_spoilt (aCons (eVar 0) (aCons (eVar 1) (aCons (eVar 2) (aCons (eVar 3) (aCons (eVar 4) aNil)))))))
 (sSeq (sIf (tVal (isN (eVar 5))) (sAsg 5 (eCall m__law_first_leaky (aCons (eVar 0) (aCons (eVar 1) (aCons (eVar 2) (aCons (eVar 3) (aCons (eVar 4) aNil))))))) sNil)
 (sRet (eVar 5))))
noncomputable def m__law_verdict : List D → Hd → Option (Rs D) := mir N__law_verdict.length P__law_verdict.length g__law_verdict
theorem w__law_verdict {P : Program} {w : World} {K : PySem.W.Frag} {mg : Str → Option Value} {base : Heap} {f : Addr} {fd : FuncData} (F : FunD K "_law_verdict" "_law_verdict" (defArgs s__law_verdict) (defBody s__law_verdict) (defScope s__law_verdict) [] [] f fd) (F__law_first_spoilt : Dfn P w K mg base 3 "_law_first_spoilt" 5 m__law_first_spoilt) (F__law_first_leaky : Dfn P w K mg base 3 "_law_first_leaky" 5 m__law_first_leaky) : FnOk P w K mg base (L2.CX P w) 4 f fd P__law_verdict (spD K mg 5 m__law_verdict) := by
  refine fn_mk (k := 3) (g := g__law_verdict) F sc__law_verdict fun cdv A outer s H E hr => ?_
  have nd := sc__law_verdict.nd
  have tk : Takes (cxOf (L2.CX P w) P w K mg base N__law_verdict "_law_verdict" (defScope s__law_verdict) f cdv A outer s H E) (fun cls d _ H => E cls d H) := takes_of rfl rfl rfl rfl
  have po : PassesOwn (model P w) (cxOf (L2.CX P w) P w K mg base N__law_verdict "_law_verdict" (defScope s__law_verdict) f cdv A outer s H E).A (cxOf (L2.CX P w) P w K mg base N__law_verdict "_law_verdict" (defScope s__law_verdict) f cdv A outer s H E).env (cxOf (L2.CX P w) P w K mg base N__law_verdict "_law_verdict" (defScope s__law_verdict) f cdv A outer s H E).xe := passes_of rfl
  exact (dss_cons (ds_set 5 nd (de_call (F__law_first_spoilt.mono (by decide)) tk hr (da_cons (de_var 0) (da_cons (de_var 1) (da_cons (de_var 2) (da_cons (de_var 3) (da_cons (de_var 4) da_nil)))))))
 (dss_cons (ds_if (dt_isN (de_var 5)) (dss_one (ds_set 5 nd (de_call (F__law_first_leaky.mono (by decide)) tk hr (da_cons (de_var 0) (da_cons (de_var 1) (da_cons (de_var 2) (da_cons (de_var 3) (da_cons (de_var 4) da_nil)))))))) dss_nil)
 (dss_one (ds_ret (de_var 5)))))
theorem d__law_verdict {P : Program} {w : World} {K : PySem.W.Frag} {mg : Str → Option Value} {base : Heap} {f : Addr} {fd : FuncData} (F : FunD K "_law_verdict" "_law_verdict" (defArgs s__law_verdict) (defBody s__law_verdict) (defScope s__law_verdict) [] [] f fd) (hmg : mg "_law_verdict" = some (.ref f)) (F__law_first_spoilt : Dfn P w K mg base 3 "_law_first_spoilt" 5 m__law_first_spoilt) (F__law_first_leaky : Dfn P w K mg base 3 "_law_first_leaky" 5 m__law_first_leaky) : Dfn P w K mg base 4 "_law_verdict" 5 m__law_verdict :=
  dfn_of F hmg (FunD.bindsN F fun _ _ _ _ _ _ us hl => match us, hl with | [_, _, _, _, _], _ => rfl) (w__law_verdict F F__law_first_spoilt F__law_first_leaky)

abbrev N_check_program : List Str := ["program", "step"]
abbrev P_check_program : List Str := ["program"]
theorem sc_check_program : FnScope N_check_program P_check_program (defScope s_check_program) := ⟨rfl, rfl, rfl, by decide +kernel, rfl, by decide +kernel, by decide +kernel⟩
noncomputable def g_check_program : SF := (sSeq (sIf (tNot (tTru (eCall m_is_prime (aCons (eUn (fldG "Program" "modulus") (eVar 0)) aNil)))) (sRaise "BadStep") sNil)
 (sFor (seqI (eUn (fldG "Program" "steps") (eVar 0))) (.nm 1) (sIf (tVal (eOp eqG (eOp ixG (eVar 1) (eC (.int 0))) (eC (.str "table")))) (sRaise "BadStep") sNil)))
noncomputable def m_check_program : List D → Hd → Option (Rs D) := mir N_check_program.length P_check_program.length g_check_program
theorem w_check_program {P : Program} {w : World} {K : PySem.W.Frag} {mg : Str → Option Value} {base : Heap} {f : Addr} {fd : FuncData} (F : FunD K "check_program" "check_program" (defArgs s_check_program) (defBody s_check_program) (defScope s_check_program) [] [] f fd) (F_is_prime : Dfn P w K mg base 1 "is_prime" 1 m_is_prime) (cf_Program : ClsK K mg "Program" ["modulus", "cells", "inputs", "steps"]) (x_BadStep : XCl K mg "BadStep") : FnOk P w K mg base (L2.CX P w) 2 f fd P_check_program (spD K mg 1 m_check_program) := by
  refine fn_mk (k := 1) (g := g_check_program) F sc_check_program fun cdv A outer s H E hr => ?_
  have nd := sc_check_program.nd
  have tk : Takes (cxOf (L2.CX P w) P w K mg base N_check_program "check_program" (defScope s_check_program) f cdv A outer s H E) (fun cls d _ H => E cls d H) := takes_of rfl rfl rfl rfl
  have po : PassesOwn (model P w) (cxOf (L2.CX P w) P w K mg base N_check_program "check_program" (defScope s_check_program) f cdv A outer s H E).A (cxOf (L2.CX P w) P w K mg base N_check_program "check_program" (defScope s_check_program) f cdv A outer s H E).env (cxOf (L2.CX P w) P w K mg base N_check_program "check_program" (defScope s_check_program) f cdv A outer s H E).xe := passes_of rfl
  exact (dss_cons (ds_if (dt_not (dt_tru (de_call (F_is_prime.mono (by decide)) tk hr (da_cons (de_fld cf_Program (List.Mem.head _) (de_var 0)) da_nil)))) (dss_one (ds_raise rfl tk x_BadStep)) dss_nil)
 (dss_one (ds_for po rfl (di_seq (de_fld cf_Program (List.Mem.tail _ (List.Mem.tail _ (List.Mem.tail _ (List.Mem.head _)))) (de_var 0))) (dg_nm 1 nd) (dss_one (ds_if (dt_cmp (op_eqP hr.units) od_eq (de_ix (de_var 1) de_int) de_str) (dss_one (ds_raise rfl tk x_BadStep)) dss_nil)))))
theorem d_check_program {P : Program} {w : World} {K : PySem.W.Frag} {mg : Str → Option Value} {base : Heap} {f : Addr} {fd : FuncData} (F : FunD K "check_program" "check_program" (defArgs s_check_program) (defBody s_check_program) (defScope s_check_program) [] [] f fd) (hmg : mg "check_program" = some (.ref f)) (F_is_prime : Dfn P w K mg base 1 "is_prime" 1 m_is_prime) (cf_Program : ClsK K mg "Program" ["modulus", "cells", "inputs", "steps"]) (x_BadStep : XCl K mg "BadStep") : Dfn P w K mg base 2 "check_program" 1 m_check_program :=
  dfn_of F hmg (FunD.bindsN F fun _ _ _ _ _ _ us hl => match us, hl with | [_], _ => rfl) (w_check_program F F_is_prime cf_Program x_BadStep)

abbrev N_check_size : List Str := ["program", "total", "_"]
abbrev P_check_size : List Str := ["program"]
theorem sc_check_size : FnScope N_check_size P_check_size (defScope s_check_size) := ⟨rfl, rfl, rfl, by decide +kernel, rfl, by decide +kernel, by decide +kernel⟩
noncomputable def g_check_size : SF := (sSeq (sAsg 1 (eOp addG (eUn lenD (eUn (fldG "Program" "steps") (eVar 0))) (eC (.int 1))))
 (sFor (rng1 (eOp addG (eUn (fldG "Program" "inputs") (eVar 0)) (eUn (fldG "Program" "cells") (eVar 0)))) (.nm 2) (sSeq (sAug mulIG 1 (eUn (fldG "Program" "modulus") (eVar 0)))
 (sIf (tVal (eOp gtG (eVar 1) (eC (.int 400000)))) (sRaise "TooLong") sNil))))
noncomputable def m_check_size : List D → Hd → Option (Rs D) := mir N_check_size.length P_check_size.length g_check_size
theorem w_check_size {P : Program} {w : World} {K : PySem.W.Frag} {mg : Str → Option Value} {base : Heap} {f : Addr} {fd : FuncData} (F : FunD K "check_size" "check_size" (defArgs s_check_size) (defBody s_check_size) (defScope s_check_size) [] [] f fd) (b_len : mg "len" = none) (b_range : mg "range" = none) (c_MOST_judge : ∃ u, mg "MOST_judge" = some u ∧ RelV (.int  400000) u) (cf_Program : ClsK K mg "Program" ["modulus", "cells", "inputs", "steps"]) (x_TooLong : XCl K mg "TooLong") : FnOk P w K mg base (L2.CX P w) 1 f fd P_check_size (spD K mg 1 m_check_size) := by
  refine fn_mk (k := 0) (g := g_check_size) F sc_check_size fun cdv A outer s H E hr => ?_
  have nd := sc_check_size.nd
  have tk : Takes (cxOf (L2.CX P w) P w K mg base N_check_size "check_size" (defScope s_check_size) f cdv A outer s H E) (fun cls d _ H => E cls d H) := takes_of rfl rfl rfl rfl
  have po : PassesOwn (model P w) (cxOf (L2.CX P w) P w K mg base N_check_size "check_size" (defScope s_check_size) f cdv A outer s H E).A (cxOf (L2.CX P w) P w K mg base N_check_size "check_size" (defScope s_check_size) f cdv A outer s H E).env (cxOf (L2.CX P w) P w K mg base N_check_size "check_size" (defScope s_check_size) f cdv A outer s H E).xe := passes_of rfl
  exact (dss_cons (ds_set 1 nd (de_op op_addD od_add (de_len (de_fld cf_Program (List.Mem.tail _ (List.Mem.tail _ (List.Mem.tail _ (List.Mem.head _)))) (de_var 0)) b_len) de_int))
 (dss_one (ds_for po rfl (di_rng1 (de_op op_addD od_add (de_fld cf_Program (List.Mem.tail _ (List.Mem.tail _ (List.Mem.head _))) (de_var 0)) (de_fld cf_Program (List.Mem.tail _ (List.Mem.head _)) (de_var 0))) b_range) (dg_nm 2 nd) (dss_cons (ds_aug 1 nd (ip_op iop_mul) od_mulI (de_fld cf_Program (List.Mem.head _) (de_var 0)))
 (dss_one (ds_if (dt_cmp op_gt od_gt (de_var 1) (de_gi c_MOST_judge)) (dss_one (ds_raise rfl tk x_TooLong)) dss_nil))))))
theorem d_check_size {P : Program} {w : World} {K : PySem.W.Frag} {mg : Str → Option Value} {base : Heap} {f : Addr} {fd : FuncData} (F : FunD K "check_size" "check_size" (defArgs s_check_size) (defBody s_check_size) (defScope s_check_size) [] [] f fd) (hmg : mg "check_size" = some (.ref f)) (b_len : mg "len" = none) (b_range : mg "range" = none) (c_MOST_judge : ∃ u, mg "MOST_judge" = some u ∧ RelV (.int  400000) u) (cf_Program : ClsK K mg "Program" ["modulus", "cells", "inputs", "steps"]) (x_TooLong : XCl K mg "TooLong") : Dfn P w K mg base 1 "check_size" 1 m_check_size :=
  dfn_of F hmg (FunD.bindsN F fun _ _ _ _ _ _ us hl => match us, hl with | [_], _ => rfl) (w_check_size F b_len b_range c_MOST_judge cf_Program x_TooLong)

abbrev N_points_of : List Str := ["modulus", "many", "points", "_", "point", "value"]
abbrev P_points_of : List Str := ["modulus", "many"]
theorem sc_points_of : FnScope N_points_of P_points_of (defScope s_points_of) := ⟨rfl, rfl, rfl, by decide +kernel, rfl, by decide +kernel, by decide +kernel⟩
noncomputable def g_points_of : SF := (sSeq (sAsg 2 (eLst (aCons (eTup aNil) aNil)))
 (sSeq (sFor (rng1 (eVar 1)) (.nm 3) (sAsg 2 (eLc2 (seqI (eVar 2)) (.nm 4) tYes (rng1 (eVar 0)) (.nm 5) tYes (eOp addG (eVar 4) (eTup (aCons (eVar 5) aNil))) [4, 5] [5])))
 (sRet (eVar 2))))
noncomputable def m_points_of : List D → Hd → Option (Rs D) := mir N_points_of.length P_points_of.length g_points_of
theorem w_points_of {P : Program} {w : World} {K : PySem.W.Frag} {mg : Str → Option Value} {base : Heap} {f : Addr} {fd : FuncData} (F : FunD K "points_of" "points_of" (defArgs s_points_of) (defBody s_points_of) (defScope s_points_of) [] [] f fd) (b_range : mg "range" = none) : FnOk P w K mg base (L2.CX P w) 1 f fd P_points_of (spD K mg 2 m_points_of) := by
  refine fn_mk (k := 0) (g := g_points_of) F sc_points_of fun cdv A outer s H E hr => ?_
  have nd := sc_points_of.nd
  have tk : Takes (cxOf (L2.CX P w) P w K mg base N_points_of "points_of" (defScope s_points_of) f cdv A outer s H E) (fun cls d _ H => E cls d H) := takes_of rfl rfl rfl rfl
  have po : PassesOwn (model P w) (cxOf (L2.CX P w) P w K mg base N_points_of "points_of" (defScope s_points_of) f cdv A outer s H E).A (cxOf (L2.CX P w) P w K mg base N_points_of "points_of" (defScope s_points_of) f cdv A outer s H E).env (cxOf (L2.CX P w) P w K mg base N_points_of "points_of" (defScope s_points_of) f cdv A outer s H E).xe := passes_of rfl
  exact (dss_cons (ds_set 2 nd (de_lst (da_cons (de_tup da_nil) da_nil)))
 (dss_cons (ds_for po rfl (di_rng1 (de_var 1) b_range) (dg_nm 3 nd) (dss_one (ds_setLc2 (own := [("point", 4), ("value", 5)]) (own1 := [5]) (i := 2) rfl nd rfl rfl (sw_true rfl rfl rfl (by decide +kernel)) (di_seq (de_var 2)) (blkOk_by (own := [("point", 4), ("value", 5)]) (N := N_points_of) (sc := defScope s_points_of) (by decide +kernel)) (by decide) (by decide) (by decide) (fun _ _ _ _ _ => (dg_nm 4 nd)) (fun _ _ _ _ _ => dts_nil) (fun _ _ _ _ _ => (di_rng1 (de_var 0) b_range)) (fun _ _ _ _ _ => (dg_nm 5 nd)) (fun _ _ _ _ _ => dts_nil) (fun _ _ _ _ _ => (de_op op_addD od_add (de_var 4) (de_tup (da_cons (de_var 5) da_nil)))))))
 (dss_one (ds_ret (de_var 2)))))
theorem d_points_of {P : Program} {w : World} {K : PySem.W.Frag} {mg : Str → Option Value} {base : Heap} {f : Addr} {fd : FuncData} (F : FunD K "points_of" "points_of" (defArgs s_points_of) (defBody s_points_of) (defScope s_points_of) [] [] f fd) (hmg : mg "points_of" = some (.ref f)) (b_range : mg "range" = none) : Dfn P w K mg base 1 "points_of" 2 m_points_of :=
  dfn_of F hmg (FunD.bindsN F fun _ _ _ _ _ _ us hl => match us, hl with | [_, _], _ => rfl) (w_points_of F b_range)

abbrev N_column_of : List Str := ["points", "place", "point"]
abbrev P_column_of : List Str := ["points", "place"]
theorem sc_column_of : FnScope N_column_of P_column_of (defScope s_column_of) := ⟨rfl, rfl, rfl, by decide +kernel, rfl, by decide +kernel, by decide +kernel⟩
noncomputable def g_column_of : SF := (sRet (eLc (seqI (eVar 0)) (.nm 2) tYes (eOp ixG (eVar 2) (eVar 1)) [2]))
noncomputable def m_column_of : List D → Hd → Option (Rs D) := mir N_column_of.length P_column_of.length g_column_of
theorem w_column_of {P : Program} {w : World} {K : PySem.W.Frag} {mg : Str → Option Value} {base : Heap} {f : Addr} {fd : FuncData} (F : FunD K "column_of" "column_of" (defArgs s_column_of) (defBody s_column_of) (defScope s_column_of) [] [] f fd) : FnOk P w K mg base (L2.CX P w) 1 f fd P_column_of (spD K mg 2 m_column_of) := by
  refine fn_mk (k := 0) (g := g_column_of) F sc_column_of fun cdv A outer s H E hr => ?_
  have nd := sc_column_of.nd
  have tk : Takes (cxOf (L2.CX P w) P w K mg base N_column_of "column_of" (defScope s_column_of) f cdv A outer s H E) (fun cls d _ H => E cls d H) := takes_of rfl rfl rfl rfl
  have po : PassesOwn (model P w) (cxOf (L2.CX P w) P w K mg base N_column_of "column_of" (defScope s_column_of) f cdv A outer s H E).A (cxOf (L2.CX P w) P w K mg base N_column_of "column_of" (defScope s_column_of) f cdv A outer s H E).env (cxOf (L2.CX P w) P w K mg base N_column_of "column_of" (defScope s_column_of) f cdv A outer s H E).xe := passes_of rfl
  exact (dss_one (ds_ret (de_lc (own := [("point", 2)]) rfl nd (di_seq (de_var 0)) (blkOk_by (own := [("point", 2)]) (N := N_column_of) (sc := defScope s_column_of) (by decide +kernel)) (by decide) (fun _ _ _ _ _ => (dg_nm 2 nd)) (fun _ _ _ _ _ => dts_nil) (fun _ _ _ _ _ => (de_ix (de_var 2) (de_var 1))))))
theorem d_column_of {P : Program} {w : World} {K : PySem.W.Frag} {mg : Str → Option Value} {base : Heap} {f : Addr} {fd : FuncData} (F : FunD K "column_of" "column_of" (defArgs s_column_of) (defBody s_column_of) (defScope s_column_of) [] [] f fd) (hmg : mg "column_of" = some (.ref f)) : Dfn P w K mg base 1 "column_of" 2 m_column_of :=
  dfn_of F hmg (FunD.bindsN F fun _ _ _ _ _ _ us hl => match us, hl with | [_, _], _ => rfl) (w_column_of F)

abbrev N_added : List Str := ["step", "columns", "program", "modulus", "column", "total", "kind", "index", "place", "_", "one", "other"]
abbrev P_added : List Str := ["step", "columns", "program"]
theorem sc_added : FnScope N_added P_added (defScope s_added) := ⟨rfl, rfl, rfl, by decide +kernel, rfl, by decide +kernel, by decide +kernel⟩
noncomputable def g_added : SF := (sSeq (sAsg 3 (eUn (fldG "Program" "modulus") (eVar 2)))
 (sSeq (sAsg 4 (eOp ixG (eVar 1) (eOp addG (eUn (fldG "Program" "inputs") (eVar 2)) (eOp ixG (eVar 0) (eC (.int 1))))))
 (sSeq (sAsg 5 (eLc (seqI (eVar 4)) (.nm 9) tYes (eOp ixG (eVar 0) (eC (.int 2))) [9]))
 (sSeq (sFor (seqI (eOp ixG (eVar 0) (eC (.int 3)))) (.tp [6, 7]) (sSeq (sAsg 8 (eIf (tVal (eOp eqG (eVar 6) (eC (.str "cell")))) (eOp addG (eUn (fldG "Program" "inputs") (eVar 2)) (eVar 7)) (eVar 7)))
 (sAsg 5 (eLc (zip2I (eVar 5) (eOp ixG (eVar 1) (eVar 8))) (.tp [10, 11]) tYes (eOp modG (eOp mulG (eVar 10) (eVar 11)) (eVar 3)) [10, 11]))))
 (sRet (eLc (zip2I (eVar 4) (eVar 5)) (.tp [10, 11]) tYes (eOp modG (eOp addG (eVar 10) (eVar 11)) (eVar 3)) [10, 11]))))))
noncomputable def m_added : List D → Hd → Option (Rs D) := mir N_added.length P_added.length g_added
theorem w_added {P : Program} {w : World} {K : PySem.W.Frag} {mg : Str → Option Value} {base : Heap} {f : Addr} {fd : FuncData} (F : FunD K "added" "added" (defArgs s_added) (defBody s_added) (defScope s_added) [] [] f fd) (b_zip : mg "zip" = none) (cf_Program : ClsK K mg "Program" ["modulus", "cells", "inputs", "steps"]) : FnOk P w K mg base (L2.CX P w) 1 f fd P_added (spD K mg 3 m_added) := by
  refine fn_mk (k := 0) (g := g_added) F sc_added fun cdv A outer s H E hr => ?_
  have nd := sc_added.nd
  have tk : Takes (cxOf (L2.CX P w) P w K mg base N_added "added" (defScope s_added) f cdv A outer s H E) (fun cls d _ H => E cls d H) := takes_of rfl rfl rfl rfl
  have po : PassesOwn (model P w) (cxOf (L2.CX P w) P w K mg base N_added "added" (defScope s_added) f cdv A outer s H E).A (cxOf (L2.CX P w) P w K mg base N_added "added" (defScope s_added) f cdv A outer s H E).env (cxOf (L2.CX P w) P w K mg base N_added "added" (defScope s_added) f cdv A outer s H E).xe := passes_of rfl
  exact (dss_cons (ds_set 3 nd (de_fld cf_Program (List.Mem.head _) (de_var 2)))
 (dss_cons (ds_set 4 nd (de_ix (de_var 1) (de_op op_addD od_add (de_fld cf_Program (List.Mem.tail _ (List.Mem.tail _ (List.Mem.head _))) (de_var 2)) (de_ix (de_var 0) de_int))))
 (dss_cons (ds_setLc (own := [("_", 9)]) (i := 5) rfl nd rfl rfl (sw_true rfl rfl rfl (by decide +kernel)) (di_seq (de_var 4)) (blkOk_by (own := [("_", 9)]) (N := N_added) (sc := defScope s_added) (by decide +kernel)) (by decide) (fun _ _ _ _ _ => (dg_nm 9 nd)) (fun _ _ _ _ _ => dts_nil) (fun _ _ _ _ _ => (de_ix (de_var 0) de_int)))
 (dss_cons (ds_for po rfl (di_seq (de_ix (de_var 0) de_int)) (dg_tp rfl (dgs_cons 6 nd (dgs_cons 7 nd dgs_nil))) (dss_cons (ds_set 8 nd (de_if (dt_cmp (op_eqP hr.units) od_eq (de_var 6) de_str) (de_op op_addD od_add (de_fld cf_Program (List.Mem.tail _ (List.Mem.tail _ (List.Mem.head _))) (de_var 2)) (de_var 7)) (de_var 7)))
 (dss_one (ds_setLc (own := [("one", 10), ("other", 11)]) (i := 5) rfl nd rfl rfl (sw_true rfl rfl rfl (by decide +kernel)) (di_zip (de_var 5) (de_ix (de_var 1) (de_var 8)) b_zip) (blkOk_by (own := [("one", 10), ("other", 11)]) (N := N_added) (sc := defScope s_added) (by decide +kernel)) (by decide) (fun _ _ _ _ _ => (dg_tp rfl (dgs_cons 10 nd (dgs_cons 11 nd dgs_nil)))) (fun _ _ _ _ _ => dts_nil) (fun _ _ _ _ _ => (de_op op_mod od_mod (de_op op_mulD od_mul (de_var 10) (de_var 11)) (de_var 3)))))))
 (dss_one (ds_ret (de_lc (own := [("one", 10), ("other", 11)]) rfl nd (di_zip (de_var 4) (de_var 5) b_zip) (blkOk_by (own := [("one", 10), ("other", 11)]) (N := N_added) (sc := defScope s_added) (by decide +kernel)) (by decide) (fun _ _ _ _ _ => (dg_tp rfl (dgs_cons 10 nd (dgs_cons 11 nd dgs_nil)))) (fun _ _ _ _ _ => dts_nil) (fun _ _ _ _ _ => (de_op op_mod od_mod (de_op op_addD od_add (de_var 10) (de_var 11)) (de_var 3))))))))))
theorem d_added {P : Program} {w : World} {K : PySem.W.Frag} {mg : Str → Option Value} {base : Heap} {f : Addr} {fd : FuncData} (F : FunD K "added" "added" (defArgs s_added) (defBody s_added) (defScope s_added) [] [] f fd) (hmg : mg "added" = some (.ref f)) (b_zip : mg "zip" = none) (cf_Program : ClsK K mg "Program" ["modulus", "cells", "inputs", "steps"]) : Dfn P w K mg base 1 "added" 3 m_added :=
  dfn_of F hmg (FunD.bindsN F fun _ _ _ _ _ _ us hl => match us, hl with | [_, _, _], _ => rfl) (w_added F b_zip cf_Program)

abbrev N_ends : List Str := ["program", "points", "first", "columns", "step", "at", "kept", "place", "value"]
abbrev P_ends : List Str := ["program", "points"]
theorem sc_ends : FnScope N_ends P_ends (defScope s_ends) := ⟨rfl, rfl, rfl, by decide +kernel, rfl, by decide +kernel, by decide +kernel⟩
noncomputable def g_ends : SF := (sSeq (sAsg 2 (eUn (fldG "Program" "inputs") (eVar 0)))
 (sSeq (sAsg 3 (eLc (rng1 (eOp addG (eVar 2) (eUn (fldG "Program" "cells") (eVar 0)))) (.nm 7) tYes (eCall m_column_of (aCons (eVar 1) (aCons (eVar 7) aNil))) [7]))
 (sSeq (sFor (seqI (eUn (fldG "Program" "steps") (eVar 0))) (.nm 4) (sSeq (sAsg 5 (eOp addG (eVar 2) (eOp ixG (eVar 4) (eC (.int 1)))))
 (sIf (tVal (eOp eqG (eOp ixG (eVar 4) (eC (.int 0))) (eC (.str "add")))) (sSetI (eCall m_added (aCons (eVar 4) (aCons (eVar 3) (aCons (eVar 0) aNil)))) (eVar 3) (eVar 5)) (sIf (tVal (eOp eqG (eOp ixG (eVar 4) (eC (.int 0))) (eC (.str "scale")))) (sSetI (eLc (seqI (eOp ixG (eVar 3) (eVar 5))) (.nm 8) tYes (eOp modG (eOp mulG (eVar 8) (eOp ixG (eVar 4) (eC (.int 2)))) (eUn (fldG "Program" "modulus") (eVar 0))) [8]) (eVar 3) (eVar 5)) (sSeq (sAsg 6 (eOp ixG (eVar 3) (eVar 5)))
 (sSeq (sSetI (eOp ixG (eVar 3) (eOp addG (eVar 2) (eOp ixG (eVar 4) (eC (.int 2))))) (eVar 3) (eVar 5))
 (sSetI (eVar 6) (eVar 3) (eOp addG (eVar 2) (eOp ixG (eVar 4) (eC (.int 2)))))))))))
 (sRet (eSl (eVar 3) (oSome (eVar 2)) oNone)))))
noncomputable def m_ends : List D → Hd → Option (Rs D) := mir N_ends.length P_ends.length g_ends
theorem w_ends {P : Program} {w : World} {K : PySem.W.Frag} {mg : Str → Option Value} {base : Heap} {f : Addr} {fd : FuncData} (F : FunD K "ends" "ends" (defArgs s_ends) (defBody s_ends) (defScope s_ends) [] [] f fd) (b_range : mg "range" = none) (F_column_of : Dfn P w K mg base 1 "column_of" 2 m_column_of) (F_added : Dfn P w K mg base 1 "added" 3 m_added) (cf_Program : ClsK K mg "Program" ["modulus", "cells", "inputs", "steps"]) : FnOk P w K mg base (L2.CX P w) 2 f fd P_ends (spD K mg 2 m_ends) := by
  refine fn_mk (k := 1) (g := g_ends) F sc_ends fun cdv A outer s H E hr => ?_
  have nd := sc_ends.nd
  have tk : Takes (cxOf (L2.CX P w) P w K mg base N_ends "ends" (defScope s_ends) f cdv A outer s H E) (fun cls d _ H => E cls d H) := takes_of rfl rfl rfl rfl
  have po : PassesOwn (model P w) (cxOf (L2.CX P w) P w K mg base N_ends "ends" (defScope s_ends) f cdv A outer s H E).A (cxOf (L2.CX P w) P w K mg base N_ends "ends" (defScope s_ends) f cdv A outer s H E).env (cxOf (L2.CX P w) P w K mg base N_ends "ends" (defScope s_ends) f cdv A outer s H E).xe := passes_of rfl
  exact (dss_cons (ds_set 2 nd (de_fld cf_Program (List.Mem.tail _ (List.Mem.tail _ (List.Mem.head _))) (de_var 0)))
 (dss_cons (ds_setLc (own := [("place", 7)]) (i := 3) rfl nd rfl rfl (sw_true rfl rfl rfl (by decide +kernel)) (di_rng1 (de_op op_addD od_add (de_var 2) (de_fld cf_Program (List.Mem.tail _ (List.Mem.head _)) (de_var 0))) b_range) (blkOk_by (own := [("place", 7)]) (N := N_ends) (sc := defScope s_ends) (by decide +kernel)) (by decide) (fun _ _ _ _ _ => (dg_nm 7 nd)) (fun _ _ _ _ _ => dts_nil) (fun _ _ _ _ _ => (de_call (F_column_of.mono (by decide)) takes0 hr (da_cons (de_var 1) (da_cons (de_var 7) da_nil)))))
 (dss_cons (ds_for po rfl (di_seq (de_fld cf_Program (List.Mem.tail _ (List.Mem.tail _ (List.Mem.tail _ (List.Mem.head _)))) (de_var 0))) (dg_nm 4 nd) (dss_cons (ds_set 5 nd (de_op op_addD od_add (de_var 2) (de_ix (de_var 4) de_int)))
 (dss_one (ds_if (dt_cmp (op_eqP hr.units) od_eq (de_ix (de_var 4) de_int) de_str) (dss_one (ds_setI (de_call (F_added.mono (by decide)) tk hr (da_cons (de_var 4) (da_cons (de_var 3) (da_cons (de_var 0) da_nil)))) (de_var 3) (de_var 5))) (dss_one (ds_if (dt_cmp (op_eqP hr.units) od_eq (de_ix (de_var 4) de_int) de_str) (dss_one (ds_setI (de_lc (own := [("value", 8)]) rfl nd (di_seq (de_ix (de_var 3) (de_var 5))) (blkOk_by (own := [("value", 8)]) (N := N_ends) (sc := defScope s_ends) (by decide +kernel)) (by decide) (fun _ _ _ _ _ => (dg_nm 8 nd)) (fun _ _ _ _ _ => dts_nil) (fun _ _ _ _ _ => (de_op op_mod od_mod (de_op op_mulD od_mul (de_var 8) (de_ix (de_var 4) de_int)) (de_fld cf_Program (List.Mem.head _) (de_var 0))))) (de_var 3) (de_var 5))) (dss_cons (ds_set 6 nd (de_ix (de_var 3) (de_var 5)))
 (dss_cons (ds_setI (de_ix (de_var 3) (de_op op_addD od_add (de_var 2) (de_ix (de_var 4) de_int))) (de_var 3) (de_var 5))
 (dss_one (ds_setI (de_var 6) (de_var 3) (de_op op_addD od_add (de_var 2) (de_ix (de_var 4) de_int))))))))))))
 (dss_one (ds_ret (de_slice (de_var 3) (do_some (de_var 2)) do_none))))))
theorem d_ends {P : Program} {w : World} {K : PySem.W.Frag} {mg : Str → Option Value} {base : Heap} {f : Addr} {fd : FuncData} (F : FunD K "ends" "ends" (defArgs s_ends) (defBody s_ends) (defScope s_ends) [] [] f fd) (hmg : mg "ends" = some (.ref f)) (b_range : mg "range" = none) (F_column_of : Dfn P w K mg base 1 "column_of" 2 m_column_of) (F_added : Dfn P w K mg base 1 "added" 3 m_added) (cf_Program : ClsK K mg "Program" ["modulus", "cells", "inputs", "steps"]) : Dfn P w K mg base 2 "ends" 2 m_ends :=
  dfn_of F hmg (FunD.bindsN F fun _ _ _ _ _ _ us hl => match us, hl with | [_, _], _ => rfl) (w_ends F b_range F_column_of F_added cf_Program)

abbrev N_spoilt : List Str := ["program", "target", "points", "columns", "first", "number", "point", "cell"]
abbrev P_spoilt : List Str := ["program", "target", "points", "columns"]
theorem sc_spoilt : FnScope N_spoilt P_spoilt (defScope s_spoilt) := ⟨rfl, rfl, rfl, by decide +kernel, rfl, by decide +kernel, by decide +kernel⟩
noncomputable def g_spoilt : SF := (sSeq (sAsg 4 (eUn (fldG "Program" "inputs") (eVar 0)))
 (sSeq (sFor (enumI (eVar 2)) (.tp [5, 6]) (sFor (rng1 (eUn (fldG "Program" "cells") (eVar 0))) (.nm 7) (sIf (tAnd (tVal (eOp neG (eVar 7) (eVar 1))) (tVal (eOp neG (eOp ixG (eOp ixG (eVar 3) (eVar 7)) (eVar 5)) (eOp ixG (eVar 6) (eOp addG (eVar 4) (eVar 7)))))) (sRet (eTup (aCons (eC (.str "spoilt")) (aCons (eUn listG (eSl (eVar 6) oNone (oSome (eVar 4)))) (aCons (eUn listG (eSl (eVar 6) (oSome (eVar 4)) oNone)) (aCons (eVar 7) aNil)))))) sNil)))
 (sRet (eC .non))))
noncomputable def m_spoilt : List D → Hd → Option (Rs D) := mir N_spoilt.length P_spoilt.length g_spoilt
theorem w_spoilt {P : Program} {w : World} {K : PySem.W.Frag} {mg : Str → Option Value} {base : Heap} {f : Addr} {fd : FuncData} (F : FunD K "spoilt" "spoilt" (defArgs s_spoilt) (defBody s_spoilt) (defScope s_spoilt) [] [] f fd) (b_enumerate : mg "enumerate" = none) (b_range : mg "range" = none) (b_list : mg "list" = none) (cf_Program : ClsK K mg "Program" ["modulus", "cells", "inputs", "steps"]) : FnOk P w K mg base (L2.CX P w) 1 f fd P_spoilt (spD K mg 4 m_spoilt) := by
  refine fn_mk (k := 0) (g := g_spoilt) F sc_spoilt fun cdv A outer s H E hr => ?_
  have nd := sc_spoilt.nd
  have tk : Takes (cxOf (L2.CX P w) P w K mg base N_spoilt "spoilt" (defScope s_spoilt) f cdv A outer s H E) (fun cls d _ H => E cls d H) := takes_of rfl rfl rfl rfl
  have po : PassesOwn (model P w) (cxOf (L2.CX P w) P w K mg base N_spoilt "spoilt" (defScope s_spoilt) f cdv A outer s H E).A (cxOf (L2.CX P w) P w K mg base N_spoilt "spoilt" (defScope s_spoilt) f cdv A outer s H E).env (cxOf (L2.CX P w) P w K mg base N_spoilt "spoilt" (defScope s_spoilt) f cdv A outer s H E).xe := passes_of rfl
  exact (dss_cons (ds_set 4 nd (de_fld cf_Program (List.Mem.tail _ (List.Mem.tail _ (List.Mem.head _))) (de_var 0)))
 (dss_cons (ds_for po rfl (di_enum (de_var 2) b_enumerate) (dg_tp rfl (dgs_cons 5 nd (dgs_cons 6 nd dgs_nil))) (dss_one (ds_for po rfl (di_rng1 (de_fld cf_Program (List.Mem.tail _ (List.Mem.head _)) (de_var 0)) b_range) (dg_nm 7 nd) (dss_one (ds_if (dt_w (dw_and (dt_cmp (op_neP hr.units) od_ne (de_var 7) (de_var 1)) (dw_and1 (dt_cmp (op_neP hr.units) od_ne (de_ix (de_ix (de_var 3) (de_var 7)) (de_var 5)) (de_ix (de_var 6) (de_op op_addD od_add (de_var 4) (de_var 7))))))) (dss_one (ds_ret (de_tup (da_cons de_str (da_cons (de_list (de_slice (de_var 6) do_none (do_some (de_var 4))) b_list) (da_cons (de_list (de_slice (de_var 6) (do_some (de_var 4)) do_none) b_list) (da_cons (de_var 7) da_nil))))))) dss_nil)))))
 (dss_one (ds_ret de_non))))
theorem d_spoilt {P : Program} {w : World} {K : PySem.W.Frag} {mg : Str → Option Value} {base : Heap} {f : Addr} {fd : FuncData} (F : FunD K "spoilt" "spoilt" (defArgs s_spoilt) (defBody s_spoilt) (defScope s_spoilt) [] [] f fd) (hmg : mg "spoilt" = some (.ref f)) (b_enumerate : mg "enumerate" = none) (b_range : mg "range" = none) (b_list : mg "list" = none) (cf_Program : ClsK K mg "Program" ["modulus", "cells", "inputs", "steps"]) : Dfn P w K mg base 1 "spoilt" 4 m_spoilt :=
  dfn_of F hmg (FunD.bindsN F fun _ _ _ _ _ _ us hl => match us, hl with | [_, _, _, _], _ => rfl) (w_spoilt F b_enumerate b_range b_list cf_Program)

abbrev N_leaky : List Str := ["program", "target", "points", "columns", "first", "changes", "number", "point", "given", "change", "clear", "_"]
abbrev P_leaky : List Str := ["program", "target", "points", "columns"]
theorem sc_leaky : FnScope N_leaky P_leaky (defScope s_leaky) := ⟨rfl, rfl, rfl, by decide +kernel, rfl, by decide +kernel, by decide +kernel⟩
noncomputable def g_leaky : SF := (sSeq (sAsg 4 (eUn (fldG "Program" "inputs") (eVar 0)))
 (sSeq (sAsg 5 eNewX)
 (sSeq (sFor (enumI (eVar 2)) (.tp [6, 7]) (sSeq (sAsg 8 (eSl (eVar 7) oNone (oSome (eVar 4))))
 (sSeq (sAsg 9 (eOp modG (eOp subG (eOp ixG (eOp ixG (eVar 3) (eVar 1)) (eVar 6)) (eOp ixG (eVar 7) (eOp addG (eVar 4) (eVar 1)))) (eUn (fldG "Program" "modulus") (eVar 0))))
 (sIf (tVal (eOp neG (eSetd (eVar 5) (aCons (eVar 8) (aCons (eVar 9) aNil))) (eVar 9))) (sSeq (sAsg 10 (eLc (rng1 (eUn (fldG "Program" "cells") (eVar 0))) (.nm 11) tYes (eC (.int 0)) [11]))
 (sRet (eTup (aCons (eC (.str "leaky")) (aCons (eUn listG (eVar 8)) (aCons (eVar 10) (aCons (eUn listG (eSl (eVar 7) (oSome (eVar 4)) oNone)) aNil))))))) sNil))))
 (sRet (eC .non)))))
noncomputable def m_leaky : List D → Hd → Option (Rs D) := mir N_leaky.length P_leaky.length g_leaky
theorem w_leaky {P : Program} {w : World} {K : PySem.W.Frag} {mg : Str → Option Value} {base : Heap} {f : Addr} {fd : FuncData} (F : FunD K "leaky" "leaky" (defArgs s_leaky) (defBody s_leaky) (defScope s_leaky) [] [] f fd) (b_enumerate : mg "enumerate" = none) (b_range : mg "range" = none) (b_list : mg "list" = none) (cf_Program : ClsK K mg "Program" ["modulus", "cells", "inputs", "steps"]) : FnOk P w K mg base (L2.CX P w) 1 f fd P_leaky (spD K mg 4 m_leaky) := by
  refine fn_mk (k := 0) (g := g_leaky) F sc_leaky fun cdv A outer s H E hr => ?_
  have nd := sc_leaky.nd
  have tk : Takes (cxOf (L2.CX P w) P w K mg base N_leaky "leaky" (defScope s_leaky) f cdv A outer s H E) (fun cls d _ H => E cls d H) := takes_of rfl rfl rfl rfl
  have po : PassesOwn (model P w) (cxOf (L2.CX P w) P w K mg base N_leaky "leaky" (defScope s_leaky) f cdv A outer s H E).A (cxOf (L2.CX P w) P w K mg base N_leaky "leaky" (defScope s_leaky) f cdv A outer s H E).env (cxOf (L2.CX P w) P w K mg base N_leaky "leaky" (defScope s_leaky) f cdv A outer s H E).xe := passes_of rfl
  exact (dss_cons (ds_set 4 nd (de_fld cf_Program (List.Mem.tail _ (List.Mem.tail _ (List.Mem.head _))) (de_var 0)))
 (dss_cons (ds_set 5 nd de_dnewX)
 (dss_cons (ds_for po rfl (di_enum (de_var 2) b_enumerate) (dg_tp rfl (dgs_cons 6 nd (dgs_cons 7 nd dgs_nil))) (dss_cons (ds_set 8 nd (de_slice (de_var 7) do_none (do_some (de_var 4))))
 (dss_cons (ds_set 9 nd (de_op op_mod od_mod (de_op op_sub od_sub (de_ix (de_ix (de_var 3) (de_var 1)) (de_var 6)) (de_ix (de_var 7) (de_op op_addD od_add (de_var 4) (de_var 1)))) (de_fld cf_Program (List.Mem.head _) (de_var 0))))
 (dss_one (ds_if (dt_cmp (op_neP hr.units) od_ne (de_setd (hu_of hr) (de_var 5) (da_cons (de_var 8) (da_cons (de_var 9) da_nil))) (de_var 9)) (dss_cons (ds_setLc (own := [("_", 11)]) (i := 10) rfl nd rfl rfl (sw_true rfl rfl rfl (by decide +kernel)) (di_rng1 (de_fld cf_Program (List.Mem.tail _ (List.Mem.head _)) (de_var 0)) b_range) (blkOk_by (own := [("_", 11)]) (N := N_leaky) (sc := defScope s_leaky) (by decide +kernel)) (by decide) (fun _ _ _ _ _ => (dg_nm 11 nd)) (fun _ _ _ _ _ => dts_nil) (fun _ _ _ _ _ => de_int))
 (dss_one (ds_ret (de_tup (da_cons de_str (da_cons (de_list (de_var 8) b_list) (da_cons (de_var 10) (da_cons (de_list (de_slice (de_var 7) (do_some (de_var 4)) do_none) b_list) da_nil)))))))) dss_nil)))))
 (dss_one (ds_ret de_non)))))
theorem d_leaky {P : Program} {w : World} {K : PySem.W.Frag} {mg : Str → Option Value} {base : Heap} {f : Addr} {fd : FuncData} (F : FunD K "leaky" "leaky" (defArgs s_leaky) (defBody s_leaky) (defScope s_leaky) [] [] f fd) (hmg : mg "leaky" = some (.ref f)) (b_enumerate : mg "enumerate" = none) (b_range : mg "range" = none) (b_list : mg "list" = none) (cf_Program : ClsK K mg "Program" ["modulus", "cells", "inputs", "steps"]) : Dfn P w K mg base 1 "leaky" 4 m_leaky :=
  dfn_of F hmg (FunD.bindsN F fun _ _ _ _ _ _ us hl => match us, hl with | [_, _, _, _], _ => rfl) (w_leaky F b_enumerate b_range b_list cf_Program)

abbrev N_judge : List Str := ["program", "target", "points", "columns", "found"]
abbrev P_judge : List Str := ["program", "target"]
theorem sc_judge : FnScope N_judge P_judge (defScope s_judge) := ⟨rfl, rfl, rfl, by decide +kernel, rfl, by decide +kernel, by decide +kernel⟩
noncomputable def g_judge : SF := (sSeq (sDrop (eCall m_check_program (aCons (eVar 0) aNil)))
 (sSeq (sIf (tNot (tTru (eCall m_is_number (aCons (eVar 1) (aCons (eUn (fldG "Program" "cells") (eVar 0)) aNil))))) (sRaise "BadStep") sNil)
 (sSeq (sDrop (eCall m_check_size (aCons (eVar 0) aNil)))
 (sSeq (sAsg 2 (eCall m_points_of (aCons (eUn (fldG "Program" "modulus") (eVar 0)) (aCons (eOp addG (eUn (fldG "Program" "inputs") (eVar 0)) (eUn (fldG "Program" "cells") (eVar 0))) aNil))))
 (sSeq (sAsg 3 (eCall m_ends (aCons (eVar 0) (aCons (eVar 2) aNil))))
 (sSeq (sAsg 4 (eCall m_spoilt (aCons (eVar 0) (aCons (eVar 1) (aCons (eVar 2) (aCons (eVar 3) aNil))))))
 (sSeq (sIf (tVal (isN (eVar 4))) (sAsg 4 (eCall m_leaky (aCons (eVar 0) (aCons (eVar 1) (aCons (eVar 2) (aCons (eVar 3) aNil)))))) sNil)
 (sRet (eVar 4)))))))))
noncomputable def m_judge : List D → Hd → Option (Rs D) := mir N_judge.length P_judge.length g_judge
theorem w_judge {P : Program} {w : World} {K : PySem.W.Frag} {mg : Str → Option Value} {base : Heap} {f : Addr} {fd : FuncData} (F : FunD K "judge" "judge" (defArgs s_judge) (defBody s_judge) (defScope s_judge) [] [] f fd) (F_check_program : Dfn P w K mg base 2 "check_program" 1 m_check_program) (F_is_number : Dfn P w K mg base 2 "is_number" 2 m_is_number) (F_check_size : Dfn P w K mg base 1 "check_size" 1 m_check_size) (F_points_of : Dfn P w K mg base 1 "points_of" 2 m_points_of) (F_ends : Dfn P w K mg base 2 "ends" 2 m_ends) (F_spoilt : Dfn P w K mg base 1 "spoilt" 4 m_spoilt) (F_leaky : Dfn P w K mg base 1 "leaky" 4 m_leaky) (cf_Program : ClsK K mg "Program" ["modulus", "cells", "inputs", "steps"]) (x_BadStep : XCl K mg "BadStep") : FnOk P w K mg base (L2.CX P w) 3 f fd P_judge (spD K mg 2 m_judge) := by
  refine fn_mk (k := 2) (g := g_judge) F sc_judge fun cdv A outer s H E hr => ?_
  have nd := sc_judge.nd
  have tk : Takes (cxOf (L2.CX P w) P w K mg base N_judge "judge" (defScope s_judge) f cdv A outer s H E) (fun cls d _ H => E cls d H) := takes_of rfl rfl rfl rfl
  have po : PassesOwn (model P w) (cxOf (L2.CX P w) P w K mg base N_judge "judge" (defScope s_judge) f cdv A outer s H E).A (cxOf (L2.CX P w) P w K mg base N_judge "judge" (defScope s_judge) f cdv A outer s H E).env (cxOf (L2.CX P w) P w K mg base N_judge "judge" (defScope s_judge) f cdv A outer s H E).xe := passes_of rfl
  exact (dss_cons (ds_drop (de_call (F_check_program.mono (by decide)) tk hr (da_cons (de_var 0) da_nil)))
 (dss_cons (ds_if (dt_not (dt_tru (de_call (F_is_number.mono (by decide)) tk hr (da_cons (de_var 1) (da_cons (de_fld cf_Program (List.Mem.tail _ (List.Mem.head _)) (de_var 0)) da_nil))))) (dss_one (ds_raise rfl tk x_BadStep)) dss_nil)
 (dss_cons (ds_drop (de_call (F_check_size.mono (by decide)) tk hr (da_cons (de_var 0) da_nil)))
 (dss_cons (ds_set 2 nd (de_call (F_points_of.mono (by decide)) tk hr (da_cons (de_fld cf_Program (List.Mem.head _) (de_var 0)) (da_cons (de_op op_addD od_add (de_fld cf_Program (List.Mem.tail _ (List.Mem.tail _ (List.Mem.head _))) (de_var 0)) (de_fld cf_Program (List.Mem.tail _ (List.Mem.head _)) (de_var 0))) da_nil))))
 (dss_cons (ds_set 3 nd (de_call (F_ends.mono (by decide)) tk hr (da_cons (de_var 0) (da_cons (de_var 2) da_nil))))
 (dss_cons (ds_set 4 nd (de_call (F_spoilt.mono (by decide)) tk hr (da_cons (de_var 0) (da_cons (de_var 1) (da_cons (de_var 2) (da_cons (de_var 3) da_nil))))))
 (dss_cons (ds_if (dt_isN (de_var 4)) (dss_one (ds_set 4 nd (de_call (F_leaky.mono (by decide)) tk hr (da_cons (de_var 0) (da_cons (de_var 1) (da_cons (de_var 2) (da_cons (de_var 3) da_nil))))))) dss_nil)
 (dss_one (ds_ret (de_var 4))))))))))
theorem d_judge {P : Program} {w : World} {K : PySem.W.Frag} {mg : Str → Option Value} {base : Heap} {f : Addr} {fd : FuncData} (F : FunD K "judge" "judge" (defArgs s_judge) (defBody s_judge) (defScope s_judge) [] [] f fd) (hmg : mg "judge" = some (.ref f)) (F_check_program : Dfn P w K mg base 2 "check_program" 1 m_check_program) (F_is_number : Dfn P w K mg base 2 "is_number" 2 m_is_number) (F_check_size : Dfn P w K mg base 1 "check_size" 1 m_check_size) (F_points_of : Dfn P w K mg base 1 "points_of" 2 m_points_of) (F_ends : Dfn P w K mg base 2 "ends" 2 m_ends) (F_spoilt : Dfn P w K mg base 1 "spoilt" 4 m_spoilt) (F_leaky : Dfn P w K mg base 1 "leaky" 4 m_leaky) (cf_Program : ClsK K mg "Program" ["modulus", "cells", "inputs", "steps"]) (x_BadStep : XCl K mg "BadStep") : Dfn P w K mg base 3 "judge" 2 m_judge :=
  dfn_of F hmg (FunD.bindsN F fun _ _ _ _ _ _ us hl => match us, hl with | [_, _], _ => rfl) (w_judge F F_check_program F_is_number F_check_size F_points_of F_ends F_spoilt F_leaky cf_Program x_BadStep)

abbrev N__law_numbers : List Str := ["_law_script", "_law_numbers_here", "_law_cell", "_law_rest", "_law_k"]
abbrev P__law_numbers : List Str := ["_law_script"]
theorem sc__law_numbers : FnScope N__law_numbers P__law_numbers (defScope s__law_numbers) := ⟨rfl, rfl, rfl, by decide +kernel, rfl, by decide +kernel, by decide +kernel⟩
noncomputable def g__law_numbers : SF := (sSeq (sAsg 1 (eLst aNil))
 (sSeq (sFor (seqI (eVar 0)) (.nm 2) (sIf (tVal (eOp geG (eVar 2) (eOp powG (eC (.int 10)) (eC (.int 18))))) (sSeq (sAsg 3 (eVar 2))
 (sFor (rng1 (eC (.int 60))) (.nm 4) (sIf (tVal (eOp gtG (eVar 3) (eC (.int 0)))) (sSeq (sDrop (eLm appendG (eVar 1) (aCons (eOp modG (eVar 3) (eC (.int 1000000))) aNil)))
 (sAsg 3 (eOp divG (eVar 3) (eC (.int 1000000))))) sNil))) (sSeq (sDrop (eLm appendG (eVar 1) (aCons (eOp modG (eVar 2) (eC (.int 1000000))) aNil)))
 (sFor (rng1 (eC (.int 5))) (.nm 4) (sDrop (eLm appendG (eVar 1) (aCons (eOp modG (eCall m__law_mixed (aCons (eCall m__law_mixed (aCons (eOp modG (eVar 2) (eC (.int 2147483647))) (aCons (eVar 4) aNil))) (aCons (eOp addG (eVar 4) (eC (.int 7))) aNil))) (eC (.int 1000000))) aNil)))))))
 (sRet (eVar 1))))
noncomputable def m__law_numbers : List D → Hd → Option (Rs D) := mir N__law_numbers.length P__law_numbers.length g__law_numbers
theorem w__law_numbers {P : Program} {w : World} {K : PySem.W.Frag} {mg : Str → Option Value} {base : Heap} {f : Addr} {fd : FuncData} (F : FunD K "_law_numbers" "_law_numbers" (defArgs s__law_numbers) (defBody s__law_numbers) (defScope s__law_numbers) [] [] f fd) (b_range : mg "range" = none) (F__law_mixed : Dfn P w K mg base 1 "_law_mixed" 2 m__law_mixed) : FnOk P w K mg base (L2.CX P w) 2 f fd P__law_numbers (spD K mg 1 m__law_numbers) := by
  refine fn_mk (k := 1) (g := g__law_numbers) F sc__law_numbers fun cdv A outer s H E hr => ?_
  have nd := sc__law_numbers.nd
  have tk : Takes (cxOf (L2.CX P w) P w K mg base N__law_numbers "_law_numbers" (defScope s__law_numbers) f cdv A outer s H E) (fun cls d _ H => E cls d H) := takes_of rfl rfl rfl rfl
  have po : PassesOwn (model P w) (cxOf (L2.CX P w) P w K mg base N__law_numbers "_law_numbers" (defScope s__law_numbers) f cdv A outer s H E).A (cxOf (L2.CX P w) P w K mg base N__law_numbers "_law_numbers" (defScope s__law_numbers) f cdv A outer s H E).env (cxOf (L2.CX P w) P w K mg base N__law_numbers "_law_numbers" (defScope s__law_numbers) f cdv A outer s H E).xe := passes_of rfl
  exact (dss_cons (ds_set 1 nd (de_lst da_nil))
 (dss_cons (ds_for po rfl (di_seq (de_var 0)) (dg_nm 2 nd) (dss_one (ds_if (dt_cmp op_ge od_ge (de_var 2) (de_op op_pow od_pow de_int de_int)) (dss_cons (ds_set 3 nd (de_var 2))
 (dss_one (ds_for po rfl (di_rng1 de_int b_range) (dg_nm 4 nd) (dss_one (ds_if (dt_cmp op_gt od_gt (de_var 3) de_int) (dss_cons (ds_drop (de_append (de_var 1) (da_cons (de_op op_mod od_mod (de_var 3) de_int) da_nil)))
 (dss_one (ds_set 3 nd (de_op op_fdivW od_div (de_var 3) de_int)))) dss_nil))))) (dss_cons (ds_drop (de_append (de_var 1) (da_cons (de_op op_mod od_mod (de_var 2) de_int) da_nil)))
 (dss_one (ds_for po rfl (di_rng1 de_int b_range) (dg_nm 4 nd) (dss_one (ds_drop (de_append (de_var 1) (da_cons (de_op op_mod od_mod (de_call (F__law_mixed.mono (by decide)) tk hr (da_cons (de_call (F__law_mixed.mono (by decide)) tk hr (da_cons (de_op op_mod od_mod (de_var 2) de_int) (da_cons (de_var 4) da_nil))) (da_cons (de_op op_addD od_add (de_var 4) de_int) da_nil))) de_int) da_nil))))))))))
 (dss_one (ds_ret (de_var 1)))))
theorem d__law_numbers {P : Program} {w : World} {K : PySem.W.Frag} {mg : Str → Option Value} {base : Heap} {f : Addr} {fd : FuncData} (F : FunD K "_law_numbers" "_law_numbers" (defArgs s__law_numbers) (defBody s__law_numbers) (defScope s__law_numbers) [] [] f fd) (hmg : mg "_law_numbers" = some (.ref f)) (b_range : mg "range" = none) (F__law_mixed : Dfn P w K mg base 1 "_law_mixed" 2 m__law_mixed) : Dfn P w K mg base 2 "_law_numbers" 1 m__law_numbers :=
  dfn_of F hmg (FunD.bindsN F fun _ _ _ _ _ _ us hl => match us, hl with | [_], _ => rfl) (w__law_numbers F b_range F__law_mixed)

abbrev N_check_numbers : List Str := ["values", "many", "modulus", "value"]
abbrev P_check_numbers : List Str := ["values", "many", "modulus"]
theorem sc_check_numbers : FnScope N_check_numbers P_check_numbers (defScope s_check_numbers) := ⟨rfl, rfl, rfl, by decide +kernel, rfl, by decide +kernel, by decide +kernel⟩
noncomputable def g_check_numbers : SF := (sSeq (sIf (tOr (tNot (tTru (eUn (isiG .lst) (eVar 0)))) (tVal (eOp neG (eUn lenD (eVar 0)) (eVar 1)))) (sRaise "BadMemory") sNil)
 (sFor (seqI (eVar 0)) (.nm 3) (sIf (tNot (tTru (eCall m_is_number (aCons (eVar 3) (aCons (eVar 2) aNil))))) (sRaise "BadMemory") sNil)))
noncomputable def m_check_numbers : List D → Hd → Option (Rs D) := mir N_check_numbers.length P_check_numbers.length g_check_numbers
theorem w_check_numbers {P : Program} {w : World} {K : PySem.W.Frag} {mg : Str → Option Value} {base : Heap} {f : Addr} {fd : FuncData} (F : FunD K "check_numbers" "check_numbers" (defArgs s_check_numbers) (defBody s_check_numbers) (defScope s_check_numbers) [] [] f fd) (b_isinstance : mg "isinstance" = none) (b_list : mg "list" = none) (b_len : mg "len" = none) (F_is_number : Dfn P w K mg base 2 "is_number" 2 m_is_number) (x_BadMemory : XCl K mg "BadMemory") : FnOk P w K mg base (L2.CX P w) 3 f fd P_check_numbers (spD K mg 3 m_check_numbers) := by
  refine fn_mk (k := 2) (g := g_check_numbers) F sc_check_numbers fun cdv A outer s H E hr => ?_
  have nd := sc_check_numbers.nd
  have tk : Takes (cxOf (L2.CX P w) P w K mg base N_check_numbers "check_numbers" (defScope s_check_numbers) f cdv A outer s H E) (fun cls d _ H => E cls d H) := takes_of rfl rfl rfl rfl
  have po : PassesOwn (model P w) (cxOf (L2.CX P w) P w K mg base N_check_numbers "check_numbers" (defScope s_check_numbers) f cdv A outer s H E).A (cxOf (L2.CX P w) P w K mg base N_check_numbers "check_numbers" (defScope s_check_numbers) f cdv A outer s H E).env (cxOf (L2.CX P w) P w K mg base N_check_numbers "check_numbers" (defScope s_check_numbers) f cdv A outer s H E).xe := passes_of rfl
  exact (dss_cons (ds_if (dt_w (dw_or (dt_not (dt_tru (de_isi .lst (de_var 0) b_isinstance b_list PyProof.Rows.boot_list))) (dw_or1 (dt_cmp (op_neP hr.units) od_ne (de_len (de_var 0) b_len) (de_var 1))))) (dss_one (ds_raise rfl tk x_BadMemory)) dss_nil)
 (dss_one (ds_for po rfl (di_seq (de_var 0)) (dg_nm 3 nd) (dss_one (ds_if (dt_not (dt_tru (de_call (F_is_number.mono (by decide)) tk hr (da_cons (de_var 3) (da_cons (de_var 2) da_nil))))) (dss_one (ds_raise rfl tk x_BadMemory)) dss_nil)))))
theorem d_check_numbers {P : Program} {w : World} {K : PySem.W.Frag} {mg : Str → Option Value} {base : Heap} {f : Addr} {fd : FuncData} (F : FunD K "check_numbers" "check_numbers" (defArgs s_check_numbers) (defBody s_check_numbers) (defScope s_check_numbers) [] [] f fd) (hmg : mg "check_numbers" = some (.ref f)) (b_isinstance : mg "isinstance" = none) (b_list : mg "list" = none) (b_len : mg "len" = none) (F_is_number : Dfn P w K mg base 2 "is_number" 2 m_is_number) (x_BadMemory : XCl K mg "BadMemory") : Dfn P w K mg base 3 "check_numbers" 3 m_check_numbers :=
  dfn_of F hmg (FunD.bindsN F fun _ _ _ _ _ _ us hl => match us, hl with | [_, _, _], _ => rfl) (w_check_numbers F b_isinstance b_list b_len F_is_number x_BadMemory)

abbrev N_weights : List Str := ["size", "prime", "x", "found", "i", "above", "below", "j"]
abbrev P_weights : List Str := ["size", "prime", "x"]
theorem sc_weights : FnScope N_weights P_weights (defScope s_weights) := ⟨rfl, rfl, rfl, by decide +kernel, rfl, by decide +kernel, by decide +kernel⟩
noncomputable def g_weights : SF := (sSeq (sAsg 3 (eLst aNil))
 (sSeq (sFor (rng1 (eVar 0)) (.nm 4) (sSeq (sAsgT [5, 6] (eTup (aCons (eC (.int 1)) (aCons (eC (.int 1)) aNil))))
 (sSeq (sFor (rng1 (eVar 0)) (.nm 7) (sIf (tVal (eOp neG (eVar 7) (eVar 4))) (sSeq (sAsg 5 (eOp modG (eOp mulG (eVar 5) (eOp subG (eVar 2) (eVar 7))) (eVar 1)))
 (sAsg 6 (eOp modG (eOp mulG (eVar 6) (eOp subG (eVar 4) (eVar 7))) (eVar 1)))) sNil))
 (sDrop (eLm appendG (eVar 3) (aCons (eOp modG (eOp mulG (eVar 5) (eCall m_inverse_of (aCons (eVar 6) (aCons (eVar 1) aNil)))) (eVar 1)) aNil))))))
 (sRet (eVar 3))))
noncomputable def m_weights : List D → Hd → Option (Rs D) := mir N_weights.length P_weights.length g_weights
theorem w_weights {P : Program} {w : World} {K : PySem.W.Frag} {mg : Str → Option Value} {base : Heap} {f : Addr} {fd : FuncData} (F : FunD K "weights" "weights" (defArgs s_weights) (defBody s_weights) (defScope s_weights) [] [] f fd) (b_range : mg "range" = none) (F_inverse_of : Dfn P w K mg base 1 "inverse_of" 2 m_inverse_of) : FnOk P w K mg base (L2.CX P w) 2 f fd P_weights (spD K mg 3 m_weights) := by
  refine fn_mk (k := 1) (g := g_weights) F sc_weights fun cdv A outer s H E hr => ?_
  have nd := sc_weights.nd
  have tk : Takes (cxOf (L2.CX P w) P w K mg base N_weights "weights" (defScope s_weights) f cdv A outer s H E) (fun cls d _ H => E cls d H) := takes_of rfl rfl rfl rfl
  have po : PassesOwn (model P w) (cxOf (L2.CX P w) P w K mg base N_weights "weights" (defScope s_weights) f cdv A outer s H E).A (cxOf (L2.CX P w) P w K mg base N_weights "weights" (defScope s_weights) f cdv A outer s H E).env (cxOf (L2.CX P w) P w K mg base N_weights "weights" (defScope s_weights) f cdv A outer s H E).xe := passes_of rfl
  exact (dss_cons (ds_set 3 nd (de_lst da_nil))
 (dss_cons (ds_for po rfl (di_rng1 (de_var 0) b_range) (dg_nm 4 nd) (dss_cons (ds_asgT (de_tup (da_cons de_int (da_cons de_int da_nil))) (dg_tp rfl (dgs_cons 5 nd (dgs_cons 6 nd dgs_nil))))
 (dss_cons (ds_for po rfl (di_rng1 (de_var 0) b_range) (dg_nm 7 nd) (dss_one (ds_if (dt_cmp (op_neP hr.units) od_ne (de_var 7) (de_var 4)) (dss_cons (ds_set 5 nd (de_op op_mod od_mod (de_op op_mulD od_mul (de_var 5) (de_op op_sub od_sub (de_var 2) (de_var 7))) (de_var 1)))
 (dss_one (ds_set 6 nd (de_op op_mod od_mod (de_op op_mulD od_mul (de_var 6) (de_op op_sub od_sub (de_var 4) (de_var 7))) (de_var 1))))) dss_nil)))
 (dss_one (ds_drop (de_append (de_var 3) (da_cons (de_op op_mod od_mod (de_op op_mulD od_mul (de_var 5) (de_call (F_inverse_of.mono (by decide)) tk hr (da_cons (de_var 6) (da_cons (de_var 1) da_nil)))) (de_var 1)) da_nil)))))))
 (dss_one (ds_ret (de_var 3)))))
theorem d_weights {P : Program} {w : World} {K : PySem.W.Frag} {mg : Str → Option Value} {base : Heap} {f : Addr} {fd : FuncData} (F : FunD K "weights" "weights" (defArgs s_weights) (defBody s_weights) (defScope s_weights) [] [] f fd) (hmg : mg "weights" = some (.ref f)) (b_range : mg "range" = none) (F_inverse_of : Dfn P w K mg base 1 "inverse_of" 2 m_inverse_of) : Dfn P w K mg base 2 "weights" 3 m_weights :=
  dfn_of F hmg (FunD.bindsN F fun _ _ _ _ _ _ us hl => match us, hl with | [_, _, _], _ => rfl) (w_weights F b_range F_inverse_of)

abbrev N_interpolate : List Str := ["table", "prime", "x", "y", "size", "rows", "columns", "total", "row", "weight", "part", "entry", "other"]
abbrev P_interpolate : List Str := ["table", "prime", "x", "y"]
theorem sc_interpolate : FnScope N_interpolate P_interpolate (defScope s_interpolate) := ⟨rfl, rfl, rfl, by decide +kernel, rfl, by decide +kernel, by decide +kernel⟩
noncomputable def g_interpolate : SF := (sSeq (sAsg 4 (eUn lenD (eVar 0)))
 (sSeq (sIf (tAnd (tVal (eChain leG ltG (eC (.int 0)) (eVar 2) (eVar 4))) (tVal (eChain leG ltG (eC (.int 0)) (eVar 3) (eVar 4)))) (sRet (eOp modG (eOp ixG (eOp ixG (eVar 0) (eVar 2)) (eVar 3)) (eVar 1))) sNil)
 (sSeq (sAsg 5 (eCall m_weights (aCons (eVar 4) (aCons (eVar 1) (aCons (eVar 2) aNil)))))
 (sSeq (sAsg 6 (eCall m_weights (aCons (eVar 4) (aCons (eVar 1) (aCons (eVar 3) aNil)))))
 (sSeq (sAsg 7 (eC (.int 0)))
 (sSeq (sFor (zip2I (eVar 0) (eVar 5)) (.tp [8, 9]) (sSeq (sAsg 10 (eC (.int 0)))
 (sSeq (sFor (zip2I (eVar 8) (eVar 6)) (.tp [11, 12]) (sAug addIG 10 (eOp mulG (eVar 11) (eVar 12))))
 (sAsg 7 (eOp modG (eOp addG (eVar 7) (eOp mulG (eVar 9) (eVar 10))) (eVar 1))))))
 (sRet (eVar 7))))))))
noncomputable def m_interpolate : List D → Hd → Option (Rs D) := mir N_interpolate.length P_interpolate.length g_interpolate
theorem w_interpolate {P : Program} {w : World} {K : PySem.W.Frag} {mg : Str → Option Value} {base : Heap} {f : Addr} {fd : FuncData} (F : FunD K "interpolate" "interpolate" (defArgs s_interpolate) (defBody s_interpolate) (defScope s_interpolate) [] [] f fd) (b_len : mg "len" = none) (b_zip : mg "zip" = none) (F_weights : Dfn P w K mg base 2 "weights" 3 m_weights) : FnOk P w K mg base (L2.CX P w) 3 f fd P_interpolate (spD K mg 4 m_interpolate) := by
  refine fn_mk (k := 2) (g := g_interpolate) F sc_interpolate fun cdv A outer s H E hr => ?_
  have nd := sc_interpolate.nd
  have tk : Takes (cxOf (L2.CX P w) P w K mg base N_interpolate "interpolate" (defScope s_interpolate) f cdv A outer s H E) (fun cls d _ H => E cls d H) := takes_of rfl rfl rfl rfl
  have po : PassesOwn (model P w) (cxOf (L2.CX P w) P w K mg base N_interpolate "interpolate" (defScope s_interpolate) f cdv A outer s H E).A (cxOf (L2.CX P w) P w K mg base N_interpolate "interpolate" (defScope s_interpolate) f cdv A outer s H E).env (cxOf (L2.CX P w) P w K mg base N_interpolate "interpolate" (defScope s_interpolate) f cdv A outer s H E).xe := passes_of rfl
  exact (dss_cons (ds_set 4 nd (de_len (de_var 0) b_len))
 (dss_cons (ds_if (dt_w (dw_and (dt_chain op_le od_le op_lt od_lt de_int (de_var 2) (de_var 4)) (dw_and1 (dt_chain op_le od_le op_lt od_lt de_int (de_var 3) (de_var 4))))) (dss_one (ds_ret (de_op op_mod od_mod (de_ix (de_ix (de_var 0) (de_var 2)) (de_var 3)) (de_var 1)))) dss_nil)
 (dss_cons (ds_set 5 nd (de_call (F_weights.mono (by decide)) tk hr (da_cons (de_var 4) (da_cons (de_var 1) (da_cons (de_var 2) da_nil)))))
 (dss_cons (ds_set 6 nd (de_call (F_weights.mono (by decide)) tk hr (da_cons (de_var 4) (da_cons (de_var 1) (da_cons (de_var 3) da_nil)))))
 (dss_cons (ds_set 7 nd de_int)
 (dss_cons (ds_for po rfl (di_zip (de_var 0) (de_var 5) b_zip) (dg_tp rfl (dgs_cons 8 nd (dgs_cons 9 nd dgs_nil))) (dss_cons (ds_set 10 nd de_int)
 (dss_cons (ds_for po rfl (di_zip (de_var 8) (de_var 6) b_zip) (dg_tp rfl (dgs_cons 11 nd (dgs_cons 12 nd dgs_nil))) (dss_one (ds_aug 10 nd (ip_op iop_add) od_addI (de_op op_mulD od_mul (de_var 11) (de_var 12)))))
 (dss_one (ds_set 7 nd (de_op op_mod od_mod (de_op op_addD od_add (de_var 7) (de_op op_mulD od_mul (de_var 9) (de_var 10))) (de_var 1)))))))
 (dss_one (ds_ret (de_var 7)))))))))
theorem d_interpolate {P : Program} {w : World} {K : PySem.W.Frag} {mg : Str → Option Value} {base : Heap} {f : Addr} {fd : FuncData} (F : FunD K "interpolate" "interpolate" (defArgs s_interpolate) (defBody s_interpolate) (defScope s_interpolate) [] [] f fd) (hmg : mg "interpolate" = some (.ref f)) (b_len : mg "len" = none) (b_zip : mg "zip" = none) (F_weights : Dfn P w K mg base 2 "weights" 3 m_weights) : Dfn P w K mg base 3 "interpolate" 4 m_interpolate :=
  dfn_of F hmg (FunD.bindsN F fun _ _ _ _ _ _ us hl => match us, hl with | [_, _, _, _], _ => rfl) (w_interpolate F b_len b_zip F_weights)

abbrev N_perform : List Str := ["step", "memory", "given", "modulus", "total", "kind", "index", "kept", "value"]
abbrev P_perform : List Str := ["step", "memory", "given", "modulus"]
theorem sc_perform : FnScope N_perform P_perform (defScope s_perform) := ⟨rfl, rfl, rfl, by decide +kernel, rfl, by decide +kernel, by decide +kernel⟩
noncomputable def g_perform : SF := (sIf (tVal (eOp eqG (eOp ixG (eVar 0) (eC (.int 0))) (eC (.str "add")))) (sSeq (sAsg 4 (eOp ixG (eVar 0) (eC (.int 2))))
 (sSeq (sFor (seqI (eOp ixG (eVar 0) (eC (.int 3)))) (.tp [5, 6]) (sAsg 4 (eOp modG (eOp mulG (eVar 4) (eIf (tVal (eOp eqG (eVar 5) (eC (.str "cell")))) (eOp ixG (eVar 1) (eVar 6)) (eOp ixG (eVar 2) (eVar 6)))) (eVar 3))))
 (sSetI (eOp modG (eOp addG (eOp ixG (eVar 1) (eOp ixG (eVar 0) (eC (.int 1)))) (eVar 4)) (eVar 3)) (eVar 1) (eOp ixG (eVar 0) (eC (.int 1)))))) (sIf (tVal (eOp eqG (eOp ixG (eVar 0) (eC (.int 0))) (eC (.str "scale")))) (sSetI (eOp modG (eOp mulG (eOp ixG (eVar 1) (eOp ixG (eVar 0) (eC (.int 1)))) (eOp ixG (eVar 0) (eC (.int 2)))) (eVar 3)) (eVar 1) (eOp ixG (eVar 0) (eC (.int 1)))) (sIf (tVal (eOp eqG (eOp ixG (eVar 0) (eC (.int 0))) (eC (.str "swap")))) (sSeq (sAsg 7 (eOp ixG (eVar 1) (eOp ixG (eVar 0) (eC (.int 1)))))
 (sSeq (sSetI (eOp ixG (eVar 1) (eOp ixG (eVar 0) (eC (.int 2)))) (eVar 1) (eOp ixG (eVar 0) (eC (.int 1))))
 (sSetI (eVar 7) (eVar 1) (eOp ixG (eVar 0) (eC (.int 2)))))) (sSeq (sAsg 8 (eCall m_interpolate (aCons (eOp ixG (eVar 0) (eC (.int 3))) (aCons (eVar 3) (aCons (eOp ixG (eVar 1) (eOp ixG (eVar 0) (eC (.int 4)))) (aCons (eOp ixG (eVar 1) (eOp ixG (eVar 0) (eC (.int 5)))) aNil))))))
 (sSetI (eOp modG (eOp addG (eOp ixG (eVar 1) (eOp ixG (eVar 0) (eC (.int 1)))) (eOp mulG (eOp ixG (eVar 0) (eC (.int 2))) (eVar 8))) (eVar 3)) (eVar 1) (eOp ixG (eVar 0) (eC (.int 1))))))))
noncomputable def m_perform : List D → Hd → Option (Rs D) := mir N_perform.length P_perform.length g_perform
theorem w_perform {P : Program} {w : World} {K : PySem.W.Frag} {mg : Str → Option Value} {base : Heap} {f : Addr} {fd : FuncData} (F : FunD K "perform" "perform" (defArgs s_perform) (defBody s_perform) (defScope s_perform) [] [] f fd) (F_interpolate : Dfn P w K mg base 3 "interpolate" 4 m_interpolate) : FnOk P w K mg base (L2.CX P w) 4 f fd P_perform (spD K mg 4 m_perform) := by
  refine fn_mk (k := 3) (g := g_perform) F sc_perform fun cdv A outer s H E hr => ?_
  have nd := sc_perform.nd
  have tk : Takes (cxOf (L2.CX P w) P w K mg base N_perform "perform" (defScope s_perform) f cdv A outer s H E) (fun cls d _ H => E cls d H) := takes_of rfl rfl rfl rfl
  have po : PassesOwn (model P w) (cxOf (L2.CX P w) P w K mg base N_perform "perform" (defScope s_perform) f cdv A outer s H E).A (cxOf (L2.CX P w) P w K mg base N_perform "perform" (defScope s_perform) f cdv A outer s H E).env (cxOf (L2.CX P w) P w K mg base N_perform "perform" (defScope s_perform) f cdv A outer s H E).xe := passes_of rfl
  exact (dss_one (ds_if (dt_cmp (op_eqP hr.units) od_eq (de_ix (de_var 0) de_int) de_str) (dss_cons (ds_set 4 nd (de_ix (de_var 0) de_int))
 (dss_cons (ds_for po rfl (di_seq (de_ix (de_var 0) de_int)) (dg_tp rfl (dgs_cons 5 nd (dgs_cons 6 nd dgs_nil))) (dss_one (ds_set 4 nd (de_op op_mod od_mod (de_op op_mulD od_mul (de_var 4) (de_if (dt_cmp (op_eqP hr.units) od_eq (de_var 5) de_str) (de_ix (de_var 1) (de_var 6)) (de_ix (de_var 2) (de_var 6)))) (de_var 3)))))
 (dss_one (ds_setI (de_op op_mod od_mod (de_op op_addD od_add (de_ix (de_var 1) (de_ix (de_var 0) de_int)) (de_var 4)) (de_var 3)) (de_var 1) (de_ix (de_var 0) de_int))))) (dss_one (ds_if (dt_cmp (op_eqP hr.units) od_eq (de_ix (de_var 0) de_int) de_str) (dss_one (ds_setI (de_op op_mod od_mod (de_op op_mulD od_mul (de_ix (de_var 1) (de_ix (de_var 0) de_int)) (de_ix (de_var 0) de_int)) (de_var 3)) (de_var 1) (de_ix (de_var 0) de_int))) (dss_one (ds_if (dt_cmp (op_eqP hr.units) od_eq (de_ix (de_var 0) de_int) de_str) (dss_cons (ds_set 7 nd (de_ix (de_var 1) (de_ix (de_var 0) de_int)))
 (dss_cons (ds_setI (de_ix (de_var 1) (de_ix (de_var 0) de_int)) (de_var 1) (de_ix (de_var 0) de_int))
 (dss_one (ds_setI (de_var 7) (de_var 1) (de_ix (de_var 0) de_int))))) (dss_cons (ds_set 8 nd (de_call (F_interpolate.mono (by decide)) tk hr (da_cons (de_ix (de_var 0) de_int) (da_cons (de_var 3) (da_cons (de_ix (de_var 1) (de_ix (de_var 0) de_int)) (da_cons (de_ix (de_var 1) (de_ix (de_var 0) de_int)) da_nil))))))
 (dss_one (ds_setI (de_op op_mod od_mod (de_op op_addD od_add (de_ix (de_var 1) (de_ix (de_var 0) de_int)) (de_op op_mulD od_mul (de_ix (de_var 0) de_int) (de_var 8))) (de_var 3)) (de_var 1) (de_ix (de_var 0) de_int))))))))))
theorem d_perform {P : Program} {w : World} {K : PySem.W.Frag} {mg : Str → Option Value} {base : Heap} {f : Addr} {fd : FuncData} (F : FunD K "perform" "perform" (defArgs s_perform) (defBody s_perform) (defScope s_perform) [] [] f fd) (hmg : mg "perform" = some (.ref f)) (F_interpolate : Dfn P w K mg base 3 "interpolate" 4 m_interpolate) : Dfn P w K mg base 4 "perform" 4 m_perform :=
  dfn_of F hmg (FunD.bindsN F fun _ _ _ _ _ _ us hl => match us, hl with | [_, _, _, _], _ => rfl) (w_perform F F_interpolate)

abbrev N_Program_run : List Str := ["self", "memory", "given", "cells", "step"]
abbrev P_Program_run : List Str := ["self", "memory", "given"]
theorem sc_Program_run : FnScope N_Program_run P_Program_run (defScope s_Program_run) := ⟨rfl, rfl, rfl, by decide +kernel, rfl, by decide +kernel, by decide +kernel⟩
noncomputable def g_Program_run : SF := (sSeq (sDrop (eCall m_check_numbers (aCons (eVar 1) (aCons (eUn (fldG "Program" "cells") (eVar 0)) (aCons (eUn (fldG "Program" "modulus") (eVar 0)) aNil)))))
 (sSeq (sDrop (eCall m_check_numbers (aCons (eVar 2) (aCons (eUn (fldG "Program" "inputs") (eVar 0)) (aCons (eUn (fldG "Program" "modulus") (eVar 0)) aNil)))))
 (sSeq (sAsg 3 (eUn listG (eVar 1)))
 (sSeq (sFor (seqI (eUn (fldG "Program" "steps") (eVar 0))) (.nm 4) (sDrop (eCall m_perform (aCons (eVar 4) (aCons (eVar 3) (aCons (eVar 2) (aCons (eUn (fldG "Program" "modulus") (eVar 0)) aNil)))))))
 (sRet (eVar 3))))))
noncomputable def m_Program_run : List D → Hd → Option (Rs D) := mir N_Program_run.length P_Program_run.length g_Program_run
theorem w_Program_run {P : Program} {w : World} {K : PySem.W.Frag} {mg : Str → Option Value} {base : Heap} {f : Addr} {fd : FuncData} (F : FunD K "run" "Program.run" (defArgs s_Program_run) (defBody s_Program_run) (defScope s_Program_run) [] [] f fd) (b_list : mg "list" = none) (F_check_numbers : Dfn P w K mg base 3 "check_numbers" 3 m_check_numbers) (F_perform : Dfn P w K mg base 4 "perform" 4 m_perform) (cf_Program : ClsK K mg "Program" ["modulus", "cells", "inputs", "steps"]) : FnOk P w K mg base (L2.CX P w) 5 f fd P_Program_run (spD K mg 3 m_Program_run) := by
  refine fn_mk (k := 4) (g := g_Program_run) F sc_Program_run fun cdv A outer s H E hr => ?_
  have nd := sc_Program_run.nd
  have tk : Takes (cxOf (L2.CX P w) P w K mg base N_Program_run "Program.run" (defScope s_Program_run) f cdv A outer s H E) (fun cls d _ H => E cls d H) := takes_of rfl rfl rfl rfl
  have po : PassesOwn (model P w) (cxOf (L2.CX P w) P w K mg base N_Program_run "Program.run" (defScope s_Program_run) f cdv A outer s H E).A (cxOf (L2.CX P w) P w K mg base N_Program_run "Program.run" (defScope s_Program_run) f cdv A outer s H E).env (cxOf (L2.CX P w) P w K mg base N_Program_run "Program.run" (defScope s_Program_run) f cdv A outer s H E).xe := passes_of rfl
  exact (dss_cons (ds_drop (de_call (F_check_numbers.mono (by decide)) tk hr (da_cons (de_var 1) (da_cons (de_fld cf_Program (List.Mem.tail _ (List.Mem.head _)) (de_var 0)) (da_cons (de_fld cf_Program (List.Mem.head _) (de_var 0)) da_nil)))))
 (dss_cons (ds_drop (de_call (F_check_numbers.mono (by decide)) tk hr (da_cons (de_var 2) (da_cons (de_fld cf_Program (List.Mem.tail _ (List.Mem.tail _ (List.Mem.head _))) (de_var 0)) (da_cons (de_fld cf_Program (List.Mem.head _) (de_var 0)) da_nil)))))
 (dss_cons (ds_set 3 nd (de_list (de_var 1) b_list))
 (dss_cons (ds_for po rfl (di_seq (de_fld cf_Program (List.Mem.tail _ (List.Mem.tail _ (List.Mem.tail _ (List.Mem.head _)))) (de_var 0))) (dg_nm 4 nd) (dss_one (ds_drop (de_call (F_perform.mono (by decide)) tk hr (da_cons (de_var 4) (da_cons (de_var 3) (da_cons (de_var 2) (da_cons (de_fld cf_Program (List.Mem.head _) (de_var 0)) da_nil))))))))
 (dss_one (ds_ret (de_var 3)))))))
theorem d_Program_run {P : Program} {w : World} {K : PySem.W.Frag} {mg : Str → Option Value} {base : Heap} {f : Addr} {fd : FuncData} (F : FunD K "run" "Program.run" (defArgs s_Program_run) (defBody s_Program_run) (defScope s_Program_run) [] [] f fd) {C : Addr} (hC : mg "Program" = some (.ref C)) (hcl : Cls K C) (hm : Meth K C "run" f) (b_list : mg "list" = none) (F_check_numbers : Dfn P w K mg base 3 "check_numbers" 3 m_check_numbers) (F_perform : Dfn P w K mg base 4 "perform" 4 m_perform) (cf_Program : ClsK K mg "Program" ["modulus", "cells", "inputs", "steps"]) : Mth P w K mg base 5 "Program" "run" 3 m_Program_run :=
  ⟨fun ds M o e => mir_len e, C, f, fd, P_Program_run, hC, hcl, hm, (FunD.bindsN F fun _ _ _ _ _ _ us hl => match us, hl with | [_, _, _], _ => rfl), (w_Program_run F b_list F_check_numbers F_perform cf_Program)⟩

abbrev N_change_of : List Str := ["program", "target", "memory", "given"]
abbrev P_change_of : List Str := ["program", "target", "memory", "given"]
theorem sc_change_of : FnScope N_change_of P_change_of (defScope s_change_of) := ⟨rfl, rfl, rfl, by decide +kernel, rfl, by decide +kernel, by decide +kernel⟩
noncomputable def g_change_of : SF := (sRet (eOp modG (eOp subG (eOp ixG (eMeth "Program" "run" m_Program_run (eVar 0) (aCons (eVar 2) (aCons (eVar 3) aNil))) (eVar 1)) (eOp ixG (eVar 2) (eVar 1))) (eUn (fldG "Program" "modulus") (eVar 0))))
noncomputable def m_change_of : List D → Hd → Option (Rs D) := mir N_change_of.length P_change_of.length g_change_of
theorem w_change_of {P : Program} {w : World} {K : PySem.W.Frag} {mg : Str → Option Value} {base : Heap} {f : Addr} {fd : FuncData} (F : FunD K "change_of" "change_of" (defArgs s_change_of) (defBody s_change_of) (defScope s_change_of) [] [] f fd) (F_Program_run : Mth P w K mg base 5 "Program" "run" 3 m_Program_run) (cf_Program : ClsK K mg "Program" ["modulus", "cells", "inputs", "steps"]) : FnOk P w K mg base (L2.CX P w) 6 f fd P_change_of (spD K mg 4 m_change_of) := by
  refine fn_mk (k := 5) (g := g_change_of) F sc_change_of fun cdv A outer s H E hr => ?_
  have nd := sc_change_of.nd
  have tk : Takes (cxOf (L2.CX P w) P w K mg base N_change_of "change_of" (defScope s_change_of) f cdv A outer s H E) (fun cls d _ H => E cls d H) := takes_of rfl rfl rfl rfl
  have po : PassesOwn (model P w) (cxOf (L2.CX P w) P w K mg base N_change_of "change_of" (defScope s_change_of) f cdv A outer s H E).A (cxOf (L2.CX P w) P w K mg base N_change_of "change_of" (defScope s_change_of) f cdv A outer s H E).env (cxOf (L2.CX P w) P w K mg base N_change_of "change_of" (defScope s_change_of) f cdv A outer s H E).xe := passes_of rfl
  exact (dss_one (ds_ret (de_op op_mod od_mod (de_op op_sub od_sub (de_ix (de_meth (F_Program_run.mono (by decide)) tk hr (de_var 0) (da_cons (de_var 2) (da_cons (de_var 3) da_nil))) (de_var 1)) (de_ix (de_var 2) (de_var 1))) (de_fld cf_Program (List.Mem.head _) (de_var 0)))))
theorem d_change_of {P : Program} {w : World} {K : PySem.W.Frag} {mg : Str → Option Value} {base : Heap} {f : Addr} {fd : FuncData} (F : FunD K "change_of" "change_of" (defArgs s_change_of) (defBody s_change_of) (defScope s_change_of) [] [] f fd) (hmg : mg "change_of" = some (.ref f)) (F_Program_run : Mth P w K mg base 5 "Program" "run" 3 m_Program_run) (cf_Program : ClsK K mg "Program" ["modulus", "cells", "inputs", "steps"]) : Dfn P w K mg base 6 "change_of" 4 m_change_of :=
  dfn_of F hmg (FunD.bindsN F fun _ _ _ _ _ _ us hl => match us, hl with | [_, _, _, _], _ => rfl) (w_change_of F F_Program_run cf_Program)

abbrev N_shows : List Str := ["program", "target", "witness", "word", "given", "memory", "last", "first"]
abbrev P_shows : List Str := ["program", "target", "witness"]
theorem sc_shows : FnScope N_shows P_shows (defScope s_shows) := ⟨rfl, rfl, rfl, by decide +kernel, rfl, by decide +kernel, by decide +kernel⟩
noncomputable def g_shows : SF := (sSeq (sAsgT [3, 4, 5, 6] (eVar 2))
 (sSeq (sIf (tVal (eOp eqG (eVar 3) (eC (.str "spoilt")))) (sSeq (sIf (tOr (tNot (tTru (eCall m_is_number (aCons (eVar 6) (aCons (eUn (fldG "Program" "cells") (eVar 0)) aNil))))) (tVal (eOp eqG (eVar 6) (eVar 1)))) (sRet (eC (.bl false))) sNil)
 (sRet (eOp neG (eOp ixG (eMeth "Program" "run" m_Program_run (eVar 0) (aCons (eVar 5) (aCons (eVar 4) aNil))) (eVar 6)) (eOp ixG (eVar 5) (eVar 6))))) sNil)
 (sSeq (sIf (tVal (eOp neG (eVar 3) (eC (.str "leaky")))) (sRet (eC (.bl false))) sNil)
 (sSeq (sAsg 7 (eCall m_change_of (aCons (eVar 0) (aCons (eVar 1) (aCons (eVar 5) (aCons (eVar 4) aNil))))))
 (sRet (eOp neG (eVar 7) (eCall m_change_of (aCons (eVar 0) (aCons (eVar 1) (aCons (eVar 6) (aCons (eVar 4) aNil)))))))))))
noncomputable def m_shows : List D → Hd → Option (Rs D) := mir N_shows.length P_shows.length g_shows
theorem w_shows {P : Program} {w : World} {K : PySem.W.Frag} {mg : Str → Option Value} {base : Heap} {f : Addr} {fd : FuncData} (F : FunD K "shows" "shows" (defArgs s_shows) (defBody s_shows) (defScope s_shows) [] [] f fd) (F_is_number : Dfn P w K mg base 2 "is_number" 2 m_is_number) (F_Program_run : Mth P w K mg base 5 "Program" "run" 3 m_Program_run) (F_change_of : Dfn P w K mg base 6 "change_of" 4 m_change_of) (cf_Program : ClsK K mg "Program" ["modulus", "cells", "inputs", "steps"]) : FnOk P w K mg base (L2.CX P w) 7 f fd P_shows (spD K mg 3 m_shows) := by
  refine fn_mk (k := 6) (g := g_shows) F sc_shows fun cdv A outer s H E hr => ?_
  have nd := sc_shows.nd
  have tk : Takes (cxOf (L2.CX P w) P w K mg base N_shows "shows" (defScope s_shows) f cdv A outer s H E) (fun cls d _ H => E cls d H) := takes_of rfl rfl rfl rfl
  have po : PassesOwn (model P w) (cxOf (L2.CX P w) P w K mg base N_shows "shows" (defScope s_shows) f cdv A outer s H E).A (cxOf (L2.CX P w) P w K mg base N_shows "shows" (defScope s_shows) f cdv A outer s H E).env (cxOf (L2.CX P w) P w K mg base N_shows "shows" (defScope s_shows) f cdv A outer s H E).xe := passes_of rfl
  exact (dss_cons (ds_asgT (de_var 2) (dg_tp rfl (dgs_cons 3 nd (dgs_cons 4 nd (dgs_cons 5 nd (dgs_cons 6 nd dgs_nil))))))
 (dss_cons (ds_if (dt_cmp (op_eqP hr.units) od_eq (de_var 3) de_str) (dss_cons (ds_if (dt_w (dw_or (dt_not (dt_tru (de_call (F_is_number.mono (by decide)) tk hr (da_cons (de_var 6) (da_cons (de_fld cf_Program (List.Mem.tail _ (List.Mem.head _)) (de_var 0)) da_nil))))) (dw_or1 (dt_cmp (op_eqP hr.units) od_eq (de_var 6) (de_var 1))))) (dss_one (ds_ret de_bl)) dss_nil)
 (dss_one (ds_ret (de_cmp (op_neP hr.units) od_ne (de_ix (de_meth (F_Program_run.mono (by decide)) tk hr (de_var 0) (da_cons (de_var 5) (da_cons (de_var 4) da_nil))) (de_var 6)) (de_ix (de_var 5) (de_var 6)))))) dss_nil)
 (dss_cons (ds_if (dt_cmp (op_neP hr.units) od_ne (de_var 3) de_str) (dss_one (ds_ret de_bl)) dss_nil)
 (dss_cons (ds_set 7 nd (de_call (F_change_of.mono (by decide)) tk hr (da_cons (de_var 0) (da_cons (de_var 1) (da_cons (de_var 5) (da_cons (de_var 4) da_nil))))))
 (dss_one (ds_ret (de_cmp (op_neP hr.units) od_ne (de_var 7) (de_call (F_change_of.mono (by decide)) tk hr (da_cons (de_var 0) (da_cons (de_var 1) (da_cons (de_var 6) (da_cons (de_var 4) da_nil))))))))))))
theorem d_shows {P : Program} {w : World} {K : PySem.W.Frag} {mg : Str → Option Value} {base : Heap} {f : Addr} {fd : FuncData} (F : FunD K "shows" "shows" (defArgs s_shows) (defBody s_shows) (defScope s_shows) [] [] f fd) (hmg : mg "shows" = some (.ref f)) (F_is_number : Dfn P w K mg base 2 "is_number" 2 m_is_number) (F_Program_run : Mth P w K mg base 5 "Program" "run" 3 m_Program_run) (F_change_of : Dfn P w K mg base 6 "change_of" 4 m_change_of) (cf_Program : ClsK K mg "Program" ["modulus", "cells", "inputs", "steps"]) : Dfn P w K mg base 7 "shows" 3 m_shows :=
  dfn_of F hmg (FunD.bindsN F fun _ _ _ _ _ _ us hl => match us, hl with | [_, _, _], _ => rfl) (w_shows F F_is_number F_Program_run F_change_of cf_Program)

abbrev N_refutes : List Str := ["program", "target", "witness"]
abbrev P_refutes : List Str := ["program", "target", "witness"]
theorem sc_refutes : FnScope N_refutes P_refutes (defScope s_refutes) := ⟨rfl, rfl, rfl, by decide +kernel, rfl, by decide +kernel, by decide +kernel⟩
noncomputable def g_refutes : SF := (sSeq (sIf (tNot (tTru (eCall m_is_number (aCons (eVar 1) (aCons (eUn (fldG "Program" "cells") (eVar 0)) aNil))))) (sRet (eC (.bl false))) sNil)
 (sSeq (sIf (tOr (tNot (tTru (eUn (isiG .tup) (eVar 2)))) (tVal (eOp neG (eUn lenD (eVar 2)) (eC (.int 4))))) (sRet (eC (.bl false))) sNil)
 (sTry (tblOf [("BrimfulError", false), ("BadStep", false), ("BadMemory", true), ("BadSource", false), ("TooLong", false)]) (sRet (eCall m_shows (aCons (eVar 0) (aCons (eVar 1) (aCons (eVar 2) aNil))))) (fun dn => (sRet (eC (.bl false)))))))
noncomputable def m_refutes : List D → Hd → Option (Rs D) := mir N_refutes.length P_refutes.length g_refutes
theorem w_refutes {P : Program} {w : World} {K : PySem.W.Frag} {mg : Str → Option Value} {base : Heap} {f : Addr} {fd : FuncData} (F : FunD K "refutes" "refutes" (defArgs s_refutes) (defBody s_refutes) (defScope s_refutes) [] [] f fd) (b_isinstance : mg "isinstance" = none) (b_tuple : mg "tuple" = none) (b_len : mg "len" = none) (F_is_number : Dfn P w K mg base 2 "is_number" 2 m_is_number) (F_shows : Dfn P w K mg base 7 "shows" 3 m_shows) (cf_Program : ClsK K mg "Program" ["modulus", "cells", "inputs", "steps"]) (h_BadMemory : Hnd K mg "BadMemory" (tblOf [("BrimfulError", false), ("BadStep", false), ("BadMemory", true), ("BadSource", false), ("TooLong", false)])) : FnOk P w K mg base (L2.CX P w) 8 f fd P_refutes (spD K mg 3 m_refutes) := by
  refine fn_mk (k := 7) (g := g_refutes) F sc_refutes fun cdv A outer s H E hr => ?_
  have nd := sc_refutes.nd
  have tk : Takes (cxOf (L2.CX P w) P w K mg base N_refutes "refutes" (defScope s_refutes) f cdv A outer s H E) (fun cls d _ H => E cls d H) := takes_of rfl rfl rfl rfl
  have po : PassesOwn (model P w) (cxOf (L2.CX P w) P w K mg base N_refutes "refutes" (defScope s_refutes) f cdv A outer s H E).A (cxOf (L2.CX P w) P w K mg base N_refutes "refutes" (defScope s_refutes) f cdv A outer s H E).env (cxOf (L2.CX P w) P w K mg base N_refutes "refutes" (defScope s_refutes) f cdv A outer s H E).xe := passes_of rfl
  exact (dss_cons (ds_if (dt_not (dt_tru (de_call (F_is_number.mono (by decide)) tk hr (da_cons (de_var 1) (da_cons (de_fld cf_Program (List.Mem.tail _ (List.Mem.head _)) (de_var 0)) da_nil))))) (dss_one (ds_ret de_bl)) dss_nil)
 (dss_cons (ds_if (dt_w (dw_or (dt_not (dt_tru (de_isi .tup (de_var 2) b_isinstance b_tuple PyProof.Rows.boot_tuple))) (dw_or1 (dt_cmp (op_neP hr.units) od_ne (de_len (de_var 2) b_len) de_int)))) (dss_one (ds_ret de_bl)) dss_nil)
 (dss_one (ds_tryH tk h_BadMemory (fun W pn xe tk po => (dss_one (ds_ret (de_call (F_shows.mono (by decide)) tk hr (da_cons (de_var 0) (da_cons (de_var 1) (da_cons (de_var 2) da_nil))))))) (fun a oe dn D pn hdn hz hv => (dss_one (ds_ret de_bl)))))))
theorem d_refutes {P : Program} {w : World} {K : PySem.W.Frag} {mg : Str → Option Value} {base : Heap} {f : Addr} {fd : FuncData} (F : FunD K "refutes" "refutes" (defArgs s_refutes) (defBody s_refutes) (defScope s_refutes) [] [] f fd) (hmg : mg "refutes" = some (.ref f)) (b_isinstance : mg "isinstance" = none) (b_tuple : mg "tuple" = none) (b_len : mg "len" = none) (F_is_number : Dfn P w K mg base 2 "is_number" 2 m_is_number) (F_shows : Dfn P w K mg base 7 "shows" 3 m_shows) (cf_Program : ClsK K mg "Program" ["modulus", "cells", "inputs", "steps"]) (h_BadMemory : Hnd K mg "BadMemory" (tblOf [("BrimfulError", false), ("BadStep", false), ("BadMemory", true), ("BadSource", false), ("TooLong", false)])) : Dfn P w K mg base 8 "refutes" 3 m_refutes :=
  dfn_of F hmg (FunD.bindsN F fun _ _ _ _ _ _ us hl => match us, hl with | [_, _, _], _ => rfl) (w_refutes F b_isinstance b_tuple b_len F_is_number F_shows cf_Program h_BadMemory)

abbrev N__law_meaning : List Str := ["_law_source_here", "_law_modulus", "_law_given", "_law_worth_here", "_law_node", "_law_i"]
abbrev P__law_meaning : List Str := ["_law_source_here", "_law_modulus", "_law_given"]
theorem sc__law_meaning : FnScope N__law_meaning P__law_meaning (defScope s__law_meaning) := ⟨rfl, rfl, rfl, by decide +kernel, rfl, by decide +kernel, by decide +kernel⟩
noncomputable def g__law_meaning : SF := (sSeq (sAsg 3 (eLst aNil))
 (sSeq (sFor (seqI (eVar 0)) (.nm 4) (sIf (tVal (eOp eqG (eOp ixG (eVar 4) (eC (.int 0))) (eC (.str "const")))) (sDrop (eLm appendG (eVar 3) (aCons (eOp modG (eOp ixG (eVar 4) (eC (.int 1))) (eVar 1)) aNil))) (sIf (tVal (eOp eqG (eOp ixG (eVar 4) (eC (.int 0))) (eC (.str "input")))) (sDrop (eLm appendG (eVar 3) (aCons (eOp ixG (eVar 2) (eOp ixG (eVar 4) (eC (.int 1)))) aNil))) (sIf (tVal (eOp eqG (eOp ixG (eVar 4) (eC (.int 0))) (eC (.str "sum")))) (sDrop (eLm appendG (eVar 3) (aCons (eOp modG (eOp addG (eOp ixG (eVar 3) (eOp ixG (eVar 4) (eC (.int 1)))) (eOp ixG (eVar 3) (eOp ixG (eVar 4) (eC (.int 2))))) (eVar 1)) aNil))) (sIf (tVal (eOp eqG (eOp ixG (eVar 4) (eC (.int 0))) (eC (.str "product")))) (sDrop (eLm appendG (eVar 3) (aCons (eOp modG (eOp mulG (eOp ixG (eVar 3) (eOp ixG (eVar 4) (eC (.int 1)))) (eOp ixG (eVar 3) (eOp ixG (eVar 4) (eC (.int 2))))) (eVar 1)) aNil))) (sIf (tVal (eOp eqG (eOp ixG (eVar 4) (eC (.int 0))) (eC (.str "scaled")))) (sDrop (eLm appendG (eVar 3) (aCons (eOp modG (eOp mulG (eOp ixG (eVar 4) (eC (.int 1))) (eOp ixG (eVar 3) (eOp ixG (eVar 4) (eC (.int 2))))) (eVar 1)) aNil))) (sSeq (sAsg 5 (eOp ixG (eVar 3) (eOp ixG (eVar 4) (eC (.int 1)))))
 (sDrop (eLm appendG (eVar 3) (aCons (eOp modG (eOp subG (eOp addG (eOp ixG (eVar 3) (eOp ixG (eVar 4) (eC (.int 3)))) (eOp mulG (eVar 5) (eOp ixG (eVar 3) (eOp ixG (eVar 4) (eC (.int 2)))))) (eOp mulG (eVar 5) (eOp ixG (eVar 3) (eOp ixG (eVar 4) (eC (.int 3)))))) (eVar 1)) aNil))))))))))
 (sRet (eOp ixG (eVar 3) (eOp subG (eUn lenD (eVar 3)) (eC (.int 1)))))))
noncomputable def m__law_meaning : List D → Hd → Option (Rs D) := mir N__law_meaning.length P__law_meaning.length g__law_meaning
theorem w__law_meaning {P : Program} {w : World} {K : PySem.W.Frag} {mg : Str → Option Value} {base : Heap} {f : Addr} {fd : FuncData} (F : FunD K "_law_meaning" "_law_meaning" (defArgs s__law_meaning) (defBody s__law_meaning) (defScope s__law_meaning) [] [] f fd) (b_len : mg "len" = none) : FnOk P w K mg base (L2.CX P w) 1 f fd P__law_meaning (spD K mg 3 m__law_meaning) := by
  refine fn_mk (k := 0) (g := g__law_meaning) F sc__law_meaning fun cdv A outer s H E hr => ?_
  have nd := sc__law_meaning.nd
  have tk : Takes (cxOf (L2.CX P w) P w K mg base N__law_meaning "_law_meaning" (defScope s__law_meaning) f cdv A outer s H E) (fun cls d _ H => E cls d H) := takes_of rfl rfl rfl rfl
  have po : PassesOwn (model P w) (cxOf (L2.CX P w) P w K mg base N__law_meaning "_law_meaning" (defScope s__law_meaning) f cdv A outer s H E).A (cxOf (L2.CX P w) P w K mg base N__law_meaning "_law_meaning" (defScope s__law_meaning) f cdv A outer s H E).env (cxOf (L2.CX P w) P w K mg base N__law_meaning "_law_meaning" (defScope s__law_meaning) f cdv A outer s H E).xe := passes_of rfl
  exact (dss_cons (ds_set 3 nd (de_lst da_nil))
 (dss_cons (ds_for po rfl (di_seq (de_var 0)) (dg_nm 4 nd) (dss_one (ds_if (dt_cmp (op_eqP hr.units) od_eq (de_ix (de_var 4) de_int) de_str) (dss_one (ds_drop (de_append (de_var 3) (da_cons (de_op op_mod od_mod (de_ix (de_var 4) de_int) (de_var 1)) da_nil)))) (dss_one (ds_if (dt_cmp (op_eqP hr.units) od_eq (de_ix (de_var 4) de_int) de_str) (dss_one (ds_drop (de_append (de_var 3) (da_cons (de_ix (de_var 2) (de_ix (de_var 4) de_int)) da_nil)))) (dss_one (ds_if (dt_cmp (op_eqP hr.units) od_eq (de_ix (de_var 4) de_int) de_str) (dss_one (ds_drop (de_append (de_var 3) (da_cons (de_op op_mod od_mod (de_op op_addD od_add (de_ix (de_var 3) (de_ix (de_var 4) de_int)) (de_ix (de_var 3) (de_ix (de_var 4) de_int))) (de_var 1)) da_nil)))) (dss_one (ds_if (dt_cmp (op_eqP hr.units) od_eq (de_ix (de_var 4) de_int) de_str) (dss_one (ds_drop (de_append (de_var 3) (da_cons (de_op op_mod od_mod (de_op op_mulD od_mul (de_ix (de_var 3) (de_ix (de_var 4) de_int)) (de_ix (de_var 3) (de_ix (de_var 4) de_int))) (de_var 1)) da_nil)))) (dss_one (ds_if (dt_cmp (op_eqP hr.units) od_eq (de_ix (de_var 4) de_int) de_str) (dss_one (ds_drop (de_append (de_var 3) (da_cons (de_op op_mod od_mod (de_op op_mulD od_mul (de_ix (de_var 4) de_int) (de_ix (de_var 3) (de_ix (de_var 4) de_int))) (de_var 1)) da_nil)))) (dss_cons (ds_set 5 nd (de_ix (de_var 3) (de_ix (de_var 4) de_int)))
 (dss_one (ds_drop (de_append (de_var 3) (da_cons (de_op op_mod od_mod (de_op op_sub od_sub (de_op op_addD od_add (de_ix (de_var 3) (de_ix (de_var 4) de_int)) (de_op op_mulD od_mul (de_var 5) (de_ix (de_var 3) (de_ix (de_var 4) de_int)))) (de_op op_mulD od_mul (de_var 5) (de_ix (de_var 3) (de_ix (de_var 4) de_int)))) (de_var 1)) da_nil))))))))))))))))
 (dss_one (ds_ret (de_ix (de_var 3) (de_op op_sub od_sub (de_len (de_var 3) b_len) de_int))))))
theorem d__law_meaning {P : Program} {w : World} {K : PySem.W.Frag} {mg : Str → Option Value} {base : Heap} {f : Addr} {fd : FuncData} (F : FunD K "_law_meaning" "_law_meaning" (defArgs s__law_meaning) (defBody s__law_meaning) (defScope s__law_meaning) [] [] f fd) (hmg : mg "_law_meaning" = some (.ref f)) (b_len : mg "len" = none) : Dfn P w K mg base 1 "_law_meaning" 3 m__law_meaning :=
  dfn_of F hmg (FunD.bindsN F fun _ _ _ _ _ _ us hl => match us, hl with | [_, _, _], _ => rfl) (w__law_meaning F b_len)

abbrev N_law : List Str := ["_law_script", "_law_draws", "_law_prime", "_law_source_here", "_law_inputs", "_law_program", "_law_adds", "_law_steps", "_law_changed_here", "_law_due", "_law_found", "_law_point"]
abbrev P_law : List Str := ["_law_script"]
theorem sc_law : FnScope N_law P_law (defScope s_law) := ⟨rfl, rfl, rfl, by decide +kernel, rfl, by decide +kernel, by decide +kernel⟩
noncomputable def g_law : SF := (sSeq (sAsg 1 (eLst (aCons (eCall m__law_numbers (aCons (eVar 0) aNil)) (aCons (eC (.int 0)) aNil))))
 (sSeq (sAsg 2 (eOp ixG (eLst (aCons (eC (.int 2)) (aCons (eC (.int 2)) (aCons (eC (.int 2)) (aCons (eC (.int 3)) (aCons (eC (.int 3)) (aCons (eC (.int 5)) aNil))))))) (eOp modG (eCall m__law_draw (aCons (eVar 1) aNil)) (eC (.int 6)))))
 (sSeq (sAsg 3 (eCall m__law_thin_source (aCons (eVar 1) aNil)))
 (sSeq (sAsg 4 (eCall m__law_needs (aCons (eVar 3) aNil)))
 (sSeq (sIf (tAnd (tVal (eOp eqG (eVar 2) (eC (.int 5)))) (tVal (eOp gtG (eVar 4) (eC (.int 0))))) (sSeq (sAsg 3 (eTup (aCons (eTup (aCons (eC (.str "const")) (aCons (eCall m__law_draw (aCons (eVar 1) aNil)) aNil))) (aCons (eTup (aCons (eC (.str "const")) (aCons (eC (.int 2)) aNil))) (aCons (eTup (aCons (eC (.str "product")) (aCons (eC (.int 0)) (aCons (eC (.int 1)) aNil)))) aNil)))))
 (sAsg 4 (eC (.int 0)))) sNil)
 (sSeq (sAsg 5 (eCall m_compile_source (aCons (eVar 3) (aCons (eVar 2) aNil))))
 (sSeq (sIf (tVal (eOp gtG (eUn (lenO "Program" m_Program___len__) (eVar 5)) (eTabI [(2, 60), (3, 20), (5, 40)] (eVar 2)))) (sRet (eC (.bl true))) sNil)
 (sSeq (sIf (tVal (isNN (eCall m_judge (aCons (eVar 5) (aCons (eC (.int 0)) aNil))))) (sRet (eC (.bl false))) sNil)
 (sSeq (sAsg 6 (eLc (seqI (eCall m__law_points (aCons (eVar 2) (aCons (eVar 4) aNil)))) (.nm 11) (tVal (eOp neG (eCall m__law_meaning (aCons (eVar 3) (aCons (eVar 2) (aCons (eVar 11) aNil)))) (eC (.int 0)))) (eVar 11) [11]))
 (sSeq (sIf (tVal (eOp neG (isN (eCall m_judge (aCons (eVar 5) (aCons (eC (.int 1)) aNil)))) (eOp eqG (eUn lenD (eVar 6)) (eC (.int 0))))) (sRet (eC (.bl false))) sNil)
 (sSeq (sIf (tVal (eOp eqG (eOp modG (eCall m__law_draw (aCons (eVar 1) aNil)) (eC (.int 2))) (eC (.int 0)))) (sRet (eC (.bl true))) sNil)
 (sSeq (sAsg 7 (eCall m__law_changed (aCons (eVar 1) (aCons (eUn listG (eUn (fldG "Program" "steps") (eVar 5))) (aCons (eVar 2) aNil)))))
 (sSeq (sAsg 8 (eMake "Program" m_Program___init__ (aCons (eVar 2) (aCons (eC (.int 3)) (aCons (eVar 4) (aCons (eUn listG (eVar 7)) aNil))))))
 (sSeq (sAsg 9 (eCall m__law_verdict (aCons (eVar 2) (aCons (eVar 4) (aCons (eC (.int 3)) (aCons (eVar 7) (aCons (eC (.int 0)) aNil)))))))
 (sSeq (sAsg 10 (eCall m_judge (aCons (eVar 8) (aCons (eC (.int 0)) aNil))))
 (sSeq (sIf (tOr (tVal (isN (eVar 10))) (tVal (isN (eVar 9)))) (sRet (eAnd (isN (eVar 10)) (isN (eVar 9)))) sNil)
 (sRet (eOp isbG (eCall m_refutes (aCons (eVar 8) (aCons (eC (.int 0)) (aCons (eVar 10) aNil)))) (eC (.bl true))))))))))))))))))))
noncomputable def m_law : List D → Hd → Option (Rs D) := mir N_law.length P_law.length g_law
theorem w_law {P : Program} {w : World} {K : PySem.W.Frag} {mg : Str → Option Value} {base : Heap} {f : Addr} {fd : FuncData} (F : FunD K "law" "law" (defArgs s_law) (defBody s_law) (defScope s_law) [] [] f fd) (b_len : mg "len" = none) (b_list : mg "list" = none) (F__law_numbers : Dfn P w K mg base 2 "_law_numbers" 1 m__law_numbers) (F__law_draw : Dfn P w K mg base 2 "_law_draw" 1 m__law_draw) (F__law_thin_source : Dfn P w K mg base 4 "_law_thin_source" 1 m__law_thin_source) (F__law_needs : Dfn P w K mg base 1 "_law_needs" 1 m__law_needs) (F_compile_source : Dfn P w K mg base 9 "compile_source" 2 m_compile_source) (F_Program___len__ : Mth P w K mg base 1 "Program" "__len__" 1 m_Program___len__) (F_judge : Dfn P w K mg base 3 "judge" 2 m_judge) (F__law_points : Dfn P w K mg base 1 "_law_points" 2 m__law_points) (F__law_meaning : Dfn P w K mg base 1 "_law_meaning" 3 m__law_meaning) (F__law_changed : Dfn P w K mg base 3 "_law_changed" 3 m__law_changed) (F_Program___init__ : MkI P w K mg base 7 "Program" 5 m_Program___init__) (F__law_verdict : Dfn P w K mg base 4 "_law_verdict" 5 m__law_verdict) (F_refutes : Dfn P w K mg base 8 "refutes" 3 m_refutes) (cf_Program : ClsK K mg "Program" ["modulus", "cells", "inputs", "steps"]) : FnOk P w K mg base (L2.CX P w) 10 f fd P_law (spD K mg 1 m_law) := by
  refine fn_mk (k := 9) (g := g_law) F sc_law fun cdv A outer s H E hr => ?_
  have nd := sc_law.nd
  have tk : Takes (cxOf (L2.CX P w) P w K mg base N_law "law" (defScope s_law) f cdv A outer s H E) (fun cls d _ H => E cls d H) := takes_of rfl rfl rfl rfl
  have po : PassesOwn (model P w) (cxOf (L2.CX P w) P w K mg base N_law "law" (defScope s_law) f cdv A outer s H E).A (cxOf (L2.CX P w) P w K mg base N_law "law" (defScope s_law) f cdv A outer s H E).env (cxOf (L2.CX P w) P w K mg base N_law "law" (defScope s_law) f cdv A outer s H E).xe := passes_of rfl
  exact (dss_cons (ds_set 1 nd (de_lst (da_cons (de_call (F__law_numbers.mono (by decide)) tk hr (da_cons (de_var 0) da_nil)) (da_cons de_int da_nil))))
 (dss_cons (ds_set 2 nd (de_ix (de_lst (da_cons de_int (da_cons de_int (da_cons de_int (da_cons de_int (da_cons de_int (da_cons de_int da_nil))))))) (de_op op_mod od_mod (de_call (F__law_draw.mono (by decide)) tk hr (da_cons (de_var 1) da_nil)) de_int)))
 (dss_cons (ds_set 3 nd (de_call (F__law_thin_source.mono (by decide)) tk hr (da_cons (de_var 1) da_nil)))
 (dss_cons (ds_set 4 nd (de_call (F__law_needs.mono (by decide)) tk hr (da_cons (de_var 3) da_nil)))
 (dss_cons (ds_if (dt_w (dw_and (dt_cmp (op_eqP hr.units) od_eq (de_var 2) de_int) (dw_and1 (dt_cmp op_gt od_gt (de_var 4) de_int)))) (dss_cons (ds_set 3 nd (de_tup (da_cons (de_tup (da_cons de_str (da_cons (de_call (F__law_draw.mono (by decide)) tk hr (da_cons (de_var 1) da_nil)) da_nil))) (da_cons (de_tup (da_cons de_str (da_cons de_int da_nil))) (da_cons (de_tup (da_cons de_str (da_cons de_int (da_cons de_int da_nil)))) da_nil)))))
 (dss_one (ds_set 4 nd de_int))) dss_nil)
 (dss_cons (ds_set 5 nd (de_call (F_compile_source.mono (by decide)) tk hr (da_cons (de_var 3) (da_cons (de_var 2) da_nil))))
 (dss_cons (ds_if (dt_cmp op_gt od_gt (de_lenO (F_Program___len__.mono (by decide)) tk hr (de_var 5) b_len) (de_tabI (l := [(2, 60), (3, 20), (5, 40)]) (hu_of hr) (dpi_cons (dpi_cons (dpi_cons dpi_nil))) 2)) (dss_one (ds_ret de_bl)) dss_nil)
 (dss_cons (ds_if (dt_isNN (de_call (F_judge.mono (by decide)) tk hr (da_cons (de_var 5) (da_cons de_int da_nil)))) (dss_one (ds_ret de_bl)) dss_nil)
 (dss_cons (ds_setLc (own := [("_law_point", 11)]) (i := 6) rfl nd rfl rfl (sw_true rfl rfl rfl (by decide +kernel)) (di_seq (de_call (F__law_points.mono (by decide)) tk hr (da_cons (de_var 2) (da_cons (de_var 4) da_nil)))) (blkOk_by (own := [("_law_point", 11)]) (N := N_law) (sc := defScope s_law) (by decide +kernel)) (by decide) (fun _ _ _ _ _ => (dg_nm 11 nd)) (fun _ _ _ _ _ => (dts_one (dt_cmp (op_neP hr.units) od_ne (de_call (F__law_meaning.mono (by decide)) takes0 hr (da_cons (de_var 3) (da_cons (de_var 2) (da_cons (de_var 11) da_nil)))) de_int))) (fun _ _ _ _ _ => (de_var 11)))
 (dss_cons (ds_if (dt_cmp (op_neP hr.units) od_ne (de_isN (de_call (F_judge.mono (by decide)) tk hr (da_cons (de_var 5) (da_cons de_int da_nil)))) (de_cmp (op_eqP hr.units) od_eq (de_len (de_var 6) b_len) de_int)) (dss_one (ds_ret de_bl)) dss_nil)
 (dss_cons (ds_if (dt_cmp (op_eqP hr.units) od_eq (de_op op_mod od_mod (de_call (F__law_draw.mono (by decide)) tk hr (da_cons (de_var 1) da_nil)) de_int) de_int) (dss_one (ds_ret de_bl)) dss_nil)
 (dss_cons (ds_set 7 nd (de_call (F__law_changed.mono (by decide)) tk hr (da_cons (de_var 1) (da_cons (de_list (de_fld cf_Program (List.Mem.tail _ (List.Mem.tail _ (List.Mem.tail _ (List.Mem.head _)))) (de_var 5)) b_list) (da_cons (de_var 2) da_nil)))))
 (dss_cons (ds_set 8 nd (de_make (F_Program___init__.mono (by decide)) tk hr (da_cons (de_var 2) (da_cons de_int (da_cons (de_var 4) (da_cons (de_list (de_var 7) b_list) da_nil))))))
 (dss_cons (ds_set 9 nd (de_call (F__law_verdict.mono (by decide)) tk hr (da_cons (de_var 2) (da_cons (de_var 4) (da_cons de_int (da_cons (de_var 7) (da_cons de_int da_nil)))))))
 (dss_cons (ds_set 10 nd (de_call (F_judge.mono (by decide)) tk hr (da_cons (de_var 8) (da_cons de_int da_nil))))
 (dss_cons (ds_if (dt_w (dw_or (dt_isN (de_var 10)) (dw_or1 (dt_isN (de_var 9))))) (dss_one (ds_ret (de_and (de_isN (de_var 10)) (de_andE (de_isN (de_var 9)))))) dss_nil)
 (dss_one (ds_ret (de_cmp op_is_bl od_isb (de_call (F_refutes.mono (by decide)) tk hr (da_cons (de_var 8) (da_cons de_int (da_cons (de_var 10) da_nil)))) de_bl)))))))))))))))))))
theorem d_law {P : Program} {w : World} {K : PySem.W.Frag} {mg : Str → Option Value} {base : Heap} {f : Addr} {fd : FuncData} (F : FunD K "law" "law" (defArgs s_law) (defBody s_law) (defScope s_law) [] [] f fd) (hmg : mg "law" = some (.ref f)) (b_len : mg "len" = none) (b_list : mg "list" = none) (F__law_numbers : Dfn P w K mg base 2 "_law_numbers" 1 m__law_numbers) (F__law_draw : Dfn P w K mg base 2 "_law_draw" 1 m__law_draw) (F__law_thin_source : Dfn P w K mg base 4 "_law_thin_source" 1 m__law_thin_source) (F__law_needs : Dfn P w K mg base 1 "_law_needs" 1 m__law_needs) (F_compile_source : Dfn P w K mg base 9 "compile_source" 2 m_compile_source) (F_Program___len__ : Mth P w K mg base 1 "Program" "__len__" 1 m_Program___len__) (F_judge : Dfn P w K mg base 3 "judge" 2 m_judge) (F__law_points : Dfn P w K mg base 1 "_law_points" 2 m__law_points) (F__law_meaning : Dfn P w K mg base 1 "_law_meaning" 3 m__law_meaning) (F__law_changed : Dfn P w K mg base 3 "_law_changed" 3 m__law_changed) (F_Program___init__ : MkI P w K mg base 7 "Program" 5 m_Program___init__) (F__law_verdict : Dfn P w K mg base 4 "_law_verdict" 5 m__law_verdict) (F_refutes : Dfn P w K mg base 8 "refutes" 3 m_refutes) (cf_Program : ClsK K mg "Program" ["modulus", "cells", "inputs", "steps"]) : Dfn P w K mg base 10 "law" 1 m_law :=
  dfn_of F hmg (FunD.bindsN F fun _ _ _ _ _ _ us hl => match us, hl with | [_], _ => rfl) (w_law F b_len b_list F__law_numbers F__law_draw F__law_thin_source F__law_needs F_compile_source F_Program___len__ F_judge F__law_points F__law_meaning F__law_changed F_Program___init__ F__law_verdict F_refutes cf_Program)

end G

end

section
set_option Elab.async false
set_option linter.all false
set_option maxRecDepth 100000
set_option maxHeartbeats 4000000
namespace G
open DI PySem
open L2 (atI ixN)
local macro_rules | `(tactic| walk_at "di") => `(tactic| try simp only [wp_seq, wp_exB, wp_bnd, wp_some, wp_none, sAsg, sPar, sRet, sRetN, sDrop, sIf, sNil, sBreak, sCont, sRaise, sAug, sSetI, sAsgT, sFor, eVar, eC, eOp, eUn, eCall, eCB, eTup, eLst, eSl, oNone, oSome, eLm, aNil, aCons, eIf, eChain_r, tVal, bOf, tTru, truD, tAnd, tOr, tNot, eAnd_r, eOr_r, eNot, isN, isNN, D.isNon, tYes, seqI, rng1, rng2,
  Tg.put, setAll, Tg.sl, bnd_ok, bnd_er, bnd_none, exB_ok, exB_er, exB_none, pr_some, pr_none, List.getElem?_cons_zero, List.getElem?_cons_succ, List.set_cons_zero, List.set_cons_succ, List.length_cons, List.length_nil, nxQ_nx, nxQ_rt, nxQ_bk, nxQ_ct, nxQ_xx, fnQ_rt, fnQ_nx, fnQ_xx, lpQ_nx, lpQ_ct, lpQ_bk, lpQ_rt, lpQ_xx, okQ, wp_ite, if_true, reduceCtorEq, Bool.true_eq_false, if_false, decide_eq_true_eq, Bool.false_eq_true, Bool.not_eq_true', decide_eq_false_iff_not, Bool.not_true, Bool.not_false,
  addG_int, addIG_int, subG_int, negG_int, ltG_int, leG_int, gtG_int, geG_int, eqG_int, neG_int, eqG_str, neG_str, eqG_bl, neG_bl, ixG_tup, ixG_fl, lenD_tup, lenD_fl, ixG_r, lenD_r, atI_c0, atI_c1, atI_c2, atI_c3, ixN_2, List.getElem?_concat_length, set_app, if_smP, if_smP2, intG_int, intG_bl, min2_int, max2_int, isiG_non, isiG_int, isiG_bl, isiG_str, isiG_tup, isiG_fl, Ty.sub, modG_ok, divG_ok, mulG_r, mulG_l, powG_10, powG_2, startD, wip, List.map_cons, List.map_nil, List.cons_append, List.nil_append, List.replicate, Nat.sub_self, Nat.zero_le, Nat.reduceLeDiff, Nat.reduceAdd, Nat.reduceSub, Int.reduceNeg, Int.reduceLT, Int.reduceLE, Int.reduceEq, Int.reducePow, Int.reduceMul, Int.reduceAdd, Int.reduceToNat, Nat.reduceLT, Nat.reduceEqDiff, and_self, and_true, true_and, reduceIte, appendG])
local macro_rules | `(tactic| walk_at "ds") => `(tactic| try simp only [wp_seq, wp_exB, wp_bnd, wp_some, wp_none, sAsg, sPar, sRet, sRetN, sDrop, sNil, sBreak, sCont, sRaise, sAug, sSetI, sAsgT, sFor, eVar, eC, eOp, eUn, eCall, eCB, eTup, eLst, eSl, oNone, oSome, eLm, aNil, aCons, eIf, eChain_r, tVal, bOf, tTru, truD, tAnd, tOr, tNot, eAnd_r, eOr_r, eNot, isN, isNN, D.isNon, tYes, seqI, rng1, rng2,
  Tg.put, setAll, Tg.sl, bnd_ok, bnd_er, bnd_none, exB_ok, exB_er, exB_none, pr_some, pr_none, List.getElem?_cons_zero, List.getElem?_cons_succ, List.set_cons_zero, List.set_cons_succ, List.length_cons, List.length_nil, nxQ_nx, nxQ_rt, nxQ_bk, nxQ_ct, nxQ_xx, fnQ_rt, fnQ_nx, fnQ_xx, lpQ_nx, lpQ_ct, lpQ_bk, lpQ_rt, lpQ_xx, okQ, wp_ite, if_true, reduceCtorEq, Bool.true_eq_false, if_false, decide_eq_true_eq, Bool.false_eq_true, Bool.not_eq_true', decide_eq_false_iff_not, Bool.not_true, Bool.not_false,
  addG_int, addIG_int, subG_int, negG_int, ltG_int, leG_int, gtG_int, geG_int, eqG_int, neG_int, eqG_str, neG_str, eqG_bl, neG_bl, ixG_tup, ixG_fl, lenD_tup, lenD_fl, ixG_r, lenD_r, atI_c0, atI_c1, atI_c2, atI_c3, ixN_2, List.getElem?_concat_length, set_app, if_smP, if_smP2, intG_int, intG_bl, min2_int, max2_int, isiG_non, isiG_int, isiG_bl, isiG_str, isiG_tup, isiG_fl, Ty.sub, modG_ok, divG_ok, mulG_r, mulG_l, powG_10, powG_2, startD, wip, List.map_cons, List.map_nil, List.cons_append, List.nil_append, List.replicate, Nat.sub_self, Nat.zero_le, Nat.reduceLeDiff, Nat.reduceAdd, Nat.reduceSub, Int.reduceNeg, Int.reduceLT, Int.reduceLE, Int.reduceEq, Int.reducePow, Int.reduceMul, Int.reduceAdd, Int.reduceToNat, Nat.reduceLT, Nat.reduceEqDiff, and_self, and_true, true_and, reduceIte, appendG])
/-! ### draws -/
def mixed (a b : Int) : Int := ((a * 48271 + b * 69621 + 12345) % 2147483647 * ((a * 48271 + b * 69621 + 12345) % 2147483647 / 65536 + 3) + b) % 2147483647
theorem mixed_eq (a b : Int) (M : Hd) : m__law_mixed [.int a, .int b] M = some (.ok (.int (mixed a b)) M) := by
  have h1 : 0 ≤ (a * 48271 + b * 69621 + 12345) % 2147483647 := Int.emod_nonneg _ (by decide)
  have h2 : (a * 48271 + b * 69621 + 12345) % 2147483647 < 2147483647 := Int.emod_lt_of_pos _ (by decide)
  simp [m__law_mixed, mir, g__law_mixed, startD, sSeq, sAsg, sRet, eOp, eVar, eC, mulG_r, modG_ok, divG_ok]
  rw [mulG_l (by omega)]
  simp [mixed, modG_ok]
/-- numbers below a million -/
def Nums (ds : List D) : Prop := ∀ d ∈ ds, ∃ i : Int, d = .int i ∧ 0 ≤ i ∧ i < 1000000
theorem Nums.add {ds : List D} (h : Nums ds) {i : Int} (h0 : 0 ≤ i) (h1 : i < 1000000) : Nums (ds ++ [.int i]) := fun d hd => by
  rcases List.mem_append.mp hd with hd | hd
  · exact h d hd
  · exact ⟨i, by simpa using hd, h0, h1⟩
theorem mod_lo (a : Int) : 0 ≤ a % 1000000 := Int.emod_nonneg _ (by decide)
theorem mod_hi (a : Int) : a % 1000000 < 1000000 := Int.emod_lt_of_pos _ (by decide)
theorem numbers_ok (ns : List Int) (h : ns.length ≤ 63) : Wp (m__law_numbers [.fl (ns.map D.int)] []) (okQ fun d M => ∃ ds, d = .ref 0 ∧ M = [.lst ds] ∧ Nums ds ∧ ds.length ≤ 4000) := by
  refine wp_mir rfl ?_
  unfold g__law_numbers
  walk_at "di"
  refine wp_forL (fun i r M => ∃ ds a b c, r = [some (.fl (ns.map D.int)), some (.ref 0), a, b, c] ∧ M = [.lst ds] ∧ Nums ds ∧ ds.length ≤ 60 * i) ?_ ?_ ?_
  · rintro i d r M hd ⟨ds, a, b, c, rfl, rfl, hN, hl⟩
    refine ⟨by simp, _, rfl, ?_⟩
    have hi : i < 63 := by
      have := (List.getElem?_eq_some_iff.mp hd).1
      rw [List.length_map] at this
      omega
    obtain ⟨n, hn, rfl⟩ : ∃ n, ns[i]? = some n ∧ d = .int n := by
      rw [List.getElem?_map] at hd
      cases e : ns[i]? with
      | none => rw [e] at hd; cases hd
      | some n => rw [e] at hd; exact ⟨n, rfl, (Option.some.inj hd).symm⟩
    walk_at "di"
    split
    · walk_at "di"
      refine wp_forL (fun j r M => ∃ ds n' c, r = [some (.fl (ns.map D.int)), some (.ref 0), some (.int n), some (.int n'), c] ∧ M = [.lst ds] ∧ Nums ds ∧ ds.length ≤ 60 * i + j) ?_ ?_ ?_
      · rintro j d r M hd ⟨ds, n', c, rfl, rfl, hN, hl⟩
        refine ⟨by simp, _, rfl, ?_⟩
        have hj := (ints_get hd).1
        walk_at "di"
        split
        · walk_at "di"
          rw [if_pos (by have : j < 60 := hj; omega)]
          walk_at "di"
          exact ⟨_, _, _, rfl, rfl, hN.add (mod_lo _) (mod_hi _), by simp; omega⟩
        · walk_at "di"
          exact ⟨_, _, _, rfl, rfl, hN, by omega⟩
      · rintro r M ⟨ds, n', c, rfl, rfl, hN, hl⟩
        refine ⟨by simp, ?_⟩
        rw [lpQ_nx]
        refine ⟨_, _, _, _, rfl, rfl, hN, ?_⟩
        rw [ints_length] at hl
        omega
      · exact ⟨_, _, _, rfl, rfl, hN, by omega⟩
    · walk_at "di"
      rw [if_pos (by omega)]
      walk_at "di"
      refine wp_forL (fun j r M => ∃ ds c, r = [some (.fl (ns.map D.int)), some (.ref 0), some (.int n), b, c] ∧ M = [.lst ds] ∧ Nums ds ∧ ds.length ≤ 60 * i + 1 + j) ?_ ?_ ?_
      · rintro j d r M hd ⟨ds, c, rfl, rfl, hN, hl⟩
        refine ⟨by simp, _, rfl, ?_⟩
        obtain ⟨hj, rfl⟩ := ints_get hd
        walk_at "di"
        rw [mixed_eq]
        walk_at "di"
        rw [mixed_eq]
        walk_at "di"
        rw [if_pos (by have : j < 5 := hj; omega)]
        walk_at "di"
        exact ⟨_, _, rfl, rfl, hN.add (mod_lo _) (mod_hi _), by simp; omega⟩
      · rintro r M ⟨ds, c, rfl, rfl, hN, hl⟩
        refine ⟨by simp, ?_⟩
        rw [lpQ_nx]
        refine ⟨_, _, _, _, rfl, rfl, hN, ?_⟩
        rw [ints_length] at hl
        omega
      · exact ⟨_, _, rfl, rfl, hN.add (mod_lo _) (mod_hi _), by simp; omega⟩
  · rintro r M ⟨ds, a, b, c, rfl, rfl, hN, hl⟩
    refine ⟨by simp, ?_⟩
    walk_at "di"
    refine ⟨ds, rfl, hN, ?_⟩
    simp at hl
    omega
  · exact ⟨[], none, none, none, rfl, rfl, (fun _ h => nomatch h), Nat.zero_le _⟩
theorem Nums.at {ds : List D} (h : Nums ds) {a : Int} (h0 : 0 ≤ a) (h1 : a < ds.length) : ∃ n, atI ds a = some (.int n) ∧ 0 ≤ n ∧ n < 1000000 := by
  have hl : a.toNat < ds.length := by omega
  obtain ⟨n, e, b⟩ := h _ (List.getElem_mem hl)
  exact ⟨n, atI_nn h0 (by rw [List.getElem?_eq_getElem hl, e]), b⟩
/-- the drawing state: numbers first, the cursor second, the rest after -/
def Dr (M R : Hd) : Prop := ∃ ds a, M = .lst ds :: .lst [.ref 0, .int a] :: R ∧ Nums ds ∧ 0 ≤ a
theorem draw_ok {M R : Hd} (h : Dr M R) : Wp (m__law_draw [.ref 1] M) (okQ fun d M1 => ∃ n, d = .int n ∧ 0 ≤ n ∧ n < 1000000 ∧ Dr M1 R) := by
  obtain ⟨ds, a, rfl, hN, ha⟩ := h
  have ha1 : (0 : Int) ≤ a + 1 := by omega
  refine wp_mir rfl ?_
  unfold g__law_draw
  walk_at "di"
  split
  · rename_i hlt
    obtain ⟨n, e, h0, h1⟩ := hN.at ha hlt
    walk_at "di"
    rw [e]
    walk_at "di"
    exact ⟨n, rfl, h0, h1, ds, _, rfl, hN, ha1⟩
  · walk_at "di"
    split
    · rename_i hlt
      obtain ⟨n, e, h0, h1⟩ := hN.at (Int.le_refl 0) hlt
      walk_at "di"
      rw [e]
      walk_at "di"
      rw [mixed_eq]
      walk_at "di"
      rw [mixed_eq]
      walk_at "di"
      exact ⟨_, rfl, mod_lo _, mod_hi _, ds, _, rfl, hN, ha1⟩
    · walk_at "di"
      rw [mixed_eq]
      walk_at "di"
      rw [mixed_eq]
      walk_at "di"
      exact ⟨_, rfl, mod_lo _, mod_hi _, ds, _, rfl, hN, ha1⟩
theorem Dr.len {M R : Hd} (h : Dr M R) : M.length = R.length + 2 := by obtain ⟨ds, a, rfl, _⟩ := h; rfl
theorem Dr.get {M R : Hd} (h : Dr M R) (k : Nat) : M[k + 2]? = R[k]? := by obtain ⟨ds, a, rfl, _⟩ := h; rfl
theorem Dr.set {M R : Hd} (h : Dr M R) (k : Nat) (o : O) : Dr (M.set (k + 2) o) (R.set k o) := by obtain ⟨ds, a, rfl, q⟩ := h; exact ⟨ds, a, rfl, q⟩
theorem Dr.app {M R : Hd} (h : Dr M R) (X : Hd) : Dr (M ++ X) (R ++ X) := by obtain ⟨ds, a, rfl, q⟩ := h; exact ⟨ds, a, rfl, q⟩
theorem get_app_l {R X : Hd} {p : Nat} {o : O} (h : R[p]? = some o) : (R ++ X)[p]? = some o := by
  rw [List.getElem?_append_left (List.getElem?_eq_some_iff.mp h).1, h]
/-! ### large numbers, moduli, numbers below -/
/-- what inverse_of says -/
def Inv (n m : Nat) (d : D) : Prop := (Nat.gcd n m ≠ 1 ∧ d = .non) ∨ (Nat.gcd n m = 1 ∧ ∃ v : Int, d = .int v ∧ 0 ≤ v ∧ v < m ∧ v * n % m = 1)
theorem inverse_ok {n m : Nat} {M : Hd} (hn : n < m) (h2 : 2 ≤ m) (hm : m < 2 ^ 60) : Wp (m_inverse_of [.int n, .int m] M) (okQ fun d M1 => M1 = M ∧ Inv n m d) := by
  refine wp_mir rfl ?_
  unfold g_inverse_of
  walk_at "di"
  rw [modG_ok (by omega)]
  walk_at "di"
  have e0 : (n : Int) % m = n := Int.emod_eq_of_lt (by omega) (by omega)
  rw [e0]
  refine wp_while (n := m) (fun k r M1 => ∃ (a b : Nat) (x y : Int) (c : Option D), r = [some (.int n), some (.int m), some (.int a), some (.int b), some (.int x), some (.int y), c] ∧ M1 = M ∧ b = k ∧ a ≤ m ∧ b ≤ m ∧ Nat.gcd a b = Nat.gcd n m ∧ (m : Int) ∣ x * n - a ∧ (m : Int) ∣ y * n - b) ?_ ?_
  · rintro k r M1 ⟨a, b, x, y, c, rfl, rfl, hk, ha, hb, hg, hx, hy⟩
    subst hk
    walk_at "di"
    refine ⟨fun hf => ?_, fun ht => ?_⟩
    · have : b = 0 := by omega
      subst this
      rw [Nat.gcd_zero_right] at hg
      by_cases h1 : (a : Int) = 1
      · rw [if_neg (by simpa using h1)]
        walk_at "di"
        rw [modG_ok (by omega)]
        walk_at "di"
        refine .inr ⟨by omega, _, rfl, Int.emod_nonneg _ (by omega), Int.emod_lt_of_pos _ (by omega), ?_⟩
        rw [h1] at hx
        have e1 : x * n % m = 1 := by
          rw [Int.emod_eq_emod_iff_emod_sub_eq_zero.mpr (Int.emod_eq_zero_of_dvd hx)]
          exact Int.emod_eq_of_lt (by omega) (by omega)
        rw [Int.mul_emod, Int.emod_emod, ← Int.mul_emod, e1]
      · rw [if_pos (by simpa using h1)]
        walk_at "di"
        exact .inl ⟨by omega, rfl⟩
    · have hb0 : 0 < b := by omega
      rw [divG_ok (by omega) (by omega)]
      walk_at "di"
      have hq0 : (0 : Int) ≤ (a : Int) / b := Int.ediv_nonneg (by omega) (by omega)
      have hq1 : (a : Int) / b ≤ a := Int.ediv_le_self _ (by omega)
      rw [mulG_l (by omega)]
      walk_at "di"
      rw [mulG_l (by omega)]
      walk_at "di"
      have hmod : (a : Int) - a / b * b = ((a % b : Nat) : Int) := by
        rw [Int.natCast_emod, Int.emod_def, Int.mul_comm]
      refine ⟨a % b, ?_, b, a % b, y, x - a / b * y, _, by rw [hmod], rfl, hb, Nat.le_trans (Nat.mod_le _ _) ha, by rw [Nat.gcd_comm b, ← Nat.gcd_rec, Nat.gcd_comm]; exact hg, hy, ?_⟩
      · exact Nat.mod_lt _ hb0
      · rw [← hmod]
        have e : (x - (a : Int) / b * y) * n - (a - (a : Int) / b * b) = (x * n - a) - (a : Int) / b * (y * n - b) := by
          rw [Int.sub_mul, Int.mul_sub, Int.mul_assoc]
          omega
        rw [e]
        exact Int.dvd_sub hx (Int.dvd_mul_of_dvd_right hy)
  · exact ⟨n, m, 1, 0, none, rfl, rfl, rfl, by omega, Nat.le_refl _, rfl, by simp, by simp⟩
theorem isiG_ref {T : Ty} {i : Nat} {ds : List D} {M : Hd} (h : M[i]? = some (.lst ds)) : isiG T (.ref i) M = some (.ok (.bl (Ty.lst.sub T)) M) := by
  unfold isiG tyD
  dsimp only
  rw [h]
/-! ### a comprehension that only makes things -/
theorem wp_comp {M0 M : Hd} {r : Ev} {it : IF} {ds : List D} {gs : Gd} {t : Tg} {c : TF} {f : EF} {own : List Nat} {keep : D → Bool} {val : D → D} (hit : it r M0 = some (.ok (ds, gs) M)) (hgs : ∀ X, Still gs (M ++ X)) (hlen : ds.length < 16777216)
    (hf : ∀ d ∈ ds, ∀ X, ∃ r1, t.put d (wip r own) = some r1 ∧ Wp (c r1 (M ++ X)) (okQ fun b M1 => b = keep d ∧ ∃ Y, M1 = M ++ (X ++ Y) ∧ (b = true → Wp (f r1 M1) (okQ fun x M2 => x = val d ∧ ∃ Z, M2 = M ++ (X ++ Z))))) :
    Wp (eLc it t c f own r M0) (okQ fun d M1 => d = .ref M.length ∧ ∃ Z, M1 = M ++ .lst ((ds.filter keep).map val) :: Z) := by
  refine wp_eLc ?_
  rw [hit, wp_some]
  dsimp only
  refine wp_lcL (fun i M1 => ∃ Z, M1 = M ++ .lst (((ds.take i).filter keep).map val) :: Z) ?_ ?_ ?_
  · rintro i d M1 hd ⟨Z, rfl⟩
    have hi : i < ds.length := (List.getElem?_eq_some_iff.mp hd).1
    obtain ⟨r1, e1, h1⟩ := hf d (List.mem_of_getElem? hd) (.lst (((ds.take i).filter keep).map val) :: Z)
    refine ⟨hgs _, r1, e1, ?_⟩
    refine h1.ok ?_
    rintro b M1 ⟨rfl, Y, rfl, h2⟩
    have htk : ds.take (i + 1) = ds.take i ++ [d] := by
      rw [List.take_succ, hd]
      rfl
    refine ⟨fun hk => ?_, fun hk => ?_⟩
    · refine ⟨Z ++ Y, ?_⟩
      rw [htk, List.filter_append, List.filter_cons, hk]
      simp
    · refine (h2 hk).ok ?_
      rintro x M2 ⟨rfl, Z2, rfl⟩
      refine ⟨((ds.take i).filter keep).map val, ?_, ?_, Z ++ Z2, ?_⟩
      · simp
      · have h3 := List.length_filter_le keep (ds.take i)
        have h4 : (ds.take i).length ≤ ds.length := by rw [List.length_take]; omega
        rw [List.length_map]
        omega
      · rw [htk, List.filter_append, List.filter_cons, hk]
        simp
  · rintro M1 ⟨Z, rfl⟩
    exact ⟨hgs _, rfl, Z, by rw [List.take_length]⟩
  · exact ⟨[], by simp⟩
theorem mapM_int : ∀ (ns : List Int), (ns.map D.int).mapM intOf = some ns
  | [] => rfl
  | n :: ns => by
    rw [List.map_cons, List.mapM_cons, mapM_int ns]
    rfl
theorem get_here {M Z : Hd} {o : O} : (M ++ o :: Z)[M.length]? = some o := by simp
theorem get_old {M Z : Hd} {o : O} {i : Nat} (h : M[i]? = some o) : (M ++ Z)[i]? = some o := by
  rw [List.getElem?_append_left (List.getElem?_eq_some_iff.mp h).1, h]
theorem set_here {M Z : Hd} {o o2 : O} : (M ++ o :: Z).set M.length o2 = M ++ o2 :: Z := by simp
theorem seq_ref {f : EF} {r : Ev} {M M1 : Hd} {i : Nat} {ds : List D} (e : f r M = some (.ok (.ref i) M1)) (h : M1[i]? = some (.lst ds)) : seqI f r M = some (.ok (ds, [(i, ds)]) M1) := by
  unfold seqI
  rw [e]
  dsimp only [bnd_ok]
  rw [h]
theorem still_of {M : Hd} {i : Nat} {ds : List D} (h : M[i]? = some (.lst ds)) (X : Hd) : Still [(i, ds)] (M ++ X) := by
  simp only [still_one, still_nil, and_true]
  exact get_old h
theorem listG_ref {M : Hd} {i : Nat} {ds : List D} (h : M[i]? = some (.lst ds)) : listG (.ref i) M = some (.ok (.ref M.length) (M ++ [.lst ds])) := by
  unfold listG itemsD
  dsimp only
  rw [h]
/-! ### lists that grow by what their items say -/
def runF {α N : Type} (f : List α → N → α) (s : List N) : List α := s.foldl (fun cs n => cs ++ [f cs n]) []
section
variable {α N : Type} {f : List α → N → α}
theorem runF_app {s : List N} {n : N} : runF f (s ++ [n]) = runF f s ++ [f (runF f s) n] := by
  unfold runF
  rw [List.foldl_append]
  rfl
theorem runF_take {s : List N} {i : Nat} {n : N} (h : s[i]? = some n) : runF f (s.take (i + 1)) = runF f (s.take i) ++ [f (runF f (s.take i)) n] := by
  rw [List.take_succ, h]
  exact runF_app
theorem runF_len_take (s : List N) : ∀ (i : Nat), i ≤ s.length → (runF f (s.take i)).length = i
  | 0, _ => rfl
  | i + 1, h => by
    rw [runF_take (List.getElem?_eq_getElem (by omega)), List.length_append, runF_len_take s i (by omega)]
    rfl
theorem runF_len (s : List N) : (runF f s).length = s.length := by
  have := runF_len_take (f := f) s s.length (Nat.le_refl _)
  rwa [List.take_length] at this
theorem runF_last {s : List N} (h : 1 ≤ s.length) : ∃ cs p, runF f s = cs ++ [p] := by
  have hl := runF_len (f := f) s
  rcases List.eq_nil_or_concat (runF f s) with e | ⟨cs, p, e⟩
  · rw [e] at hl; simp at hl; omega
  · exact ⟨cs, p, by rw [e, List.concat_eq_append]⟩
end
theorem atI_len1 {xs : List D} {v : D} : atI (xs ++ [v]) (((xs ++ [v]).length : Int) - 1) = some v := by
  apply atI_nn (by simp)
  have : ((((xs ++ [v]).length : Nat) : Int) - 1).toNat = xs.length := by simp
  rw [this]
  exact List.getElem?_concat_length
def cg (cs : List Int) (i : Int) : Int := cs.getD i.toNat 0
theorem atI_cs {cs : List Int} {c : Int} (h : 0 ≤ c ∧ c < cs.length) : atI (cs.map D.int) c = some (.int (cg cs c)) := by
  have hl : c.toNat < cs.length := by omega
  apply atI_nn h.1
  unfold cg
  rw [List.getElem?_map, List.getD_eq_getElem?_getD, List.getElem?_eq_getElem hl]
  rfl
theorem cut_to {ds : List D} {a : Int} (h : 0 ≤ a ∧ a ≤ ds.length) : cutD ds none (some a) = ds.take a.toNat := by
  unfold cutD HT.sIx
  dsimp only
  rw [if_neg (by omega), Nat.min_eq_left (by omega), List.drop_zero, Nat.sub_zero]
theorem cut_from {ds : List D} {a : Int} (h : 0 ≤ a ∧ a ≤ ds.length) : cutD ds (some a) none = ds.drop a.toNat := by
  unfold cutD HT.sIx
  dsimp only
  rw [if_neg (by omega), Nat.min_eq_left (by omega)]
  apply List.take_of_length_le
  rw [List.length_drop]
  exact Nat.le_refl _
theorem slice_ref {M : Hd} {i : Nat} {ds : List D} (e : M[i]? = some (.lst ds)) {l u : Option Int} : sliceD (.ref i) l u M = some (.ok (.ref M.length) (M ++ [.lst (cutD ds l u)])) := by
  unfold sliceD
  dsimp only
  rw [e]
theorem cut_1 {a : D} {l : List D} : cutD (a :: l) (some 1) none = l := by
  unfold cutD HT.sIx
  dsimp only
  rw [if_neg (by omega), List.length_cons, Nat.min_eq_left (by omega)]
  show List.take _ (List.drop 1 (a :: l)) = l
  rw [List.drop_one, List.tail_cons]
  apply List.take_of_length_le
  have : (1 : Int).toNat = 1 := rfl
  omega
theorem is_number_ok {n m : Int} {M : Hd} : Wp (m_is_number [.int n, .int m] M) (okQ fun d M1 => M1 = M ∧ d = .bl (decide (0 ≤ n ∧ n < m))) := by
  have hi : Wp (m_is_integer [.int n] M) (okQ fun d M1 => M1 = M ∧ d = .bl true) := by
    refine wp_mir rfl ?_
    unfold g_is_integer
    walk_at "di"
  refine wp_mir rfl ?_
  unfold g_is_number
  walk_at "ds"
  refine hi.ok ?_
  rintro _ _ ⟨rfl, rfl⟩
  walk_at "di"
  by_cases h0 : 0 ≤ n
  · rw [if_pos h0]
    simp [h0]
  · rw [if_neg h0]
    simp [h0]
theorem is_number_yes {n m : Int} {M : Hd} (h : 0 ≤ n ∧ n < m) : m_is_number [.int n, .int m] M = some (.ok (.bl true) M) := by
  obtain ⟨o, e, q⟩ := is_number_ok (n := n) (m := m) (M := M)
  cases o with
  | ok d M1 =>
    obtain ⟨rfl, rfl⟩ := q
    rw [e, decide_eq_true h]
  | er c M1 => exact q.elim
theorem numb_get {xs : List D} {i : Nat} {d : D} (h : (numbD xs)[i]? = some d) : ∃ x, xs[i]? = some x ∧ d = .tup [.int i, x] := by
  unfold numbD at h
  rw [List.getElem?_map, List.getElem?_zipIdx] at h
  cases e : xs[i]? with
  | none => rw [e] at h; cases h
  | some x =>
    rw [e] at h
    refine ⟨x, rfl, ?_⟩
    have := Option.some.inj h
    rw [← this]
    simp
theorem getC_str {kvs : List (Str × Int)} {fa : EF} {r : Ev} {M M1 : Hd} {x : Str} {i : Int} (h : fa r M = some (.ok (.str x) M1)) (e : kvs.lookup x = some i) : getC kvs fa r M = some (.ok (.int i) M1) := by
  unfold getC
  rw [h]
  dsimp only [bnd_ok]
  rw [e]
/-! ### the texts of nodes and steps -/
theorem sn_const_input : (("const" : Str) = "input") = False := eq_false (by decide +kernel)
theorem sn_const_sum : (("const" : Str) = "sum") = False := eq_false (by decide +kernel)
theorem sn_const_product : (("const" : Str) = "product") = False := eq_false (by decide +kernel)
theorem sn_const_scaled : (("const" : Str) = "scaled") = False := eq_false (by decide +kernel)
theorem sn_const_choose : (("const" : Str) = "choose") = False := eq_false (by decide +kernel)
theorem sn_const_add : (("const" : Str) = "add") = False := eq_false (by decide +kernel)
theorem sn_const_scale : (("const" : Str) = "scale") = False := eq_false (by decide +kernel)
theorem sn_const_swap : (("const" : Str) = "swap") = False := eq_false (by decide +kernel)
theorem sn_const_table : (("const" : Str) = "table") = False := eq_false (by decide +kernel)
theorem sn_const_cell : (("const" : Str) = "cell") = False := eq_false (by decide +kernel)
theorem sn_input_const : (("input" : Str) = "const") = False := eq_false (by decide +kernel)
theorem sn_input_sum : (("input" : Str) = "sum") = False := eq_false (by decide +kernel)
theorem sn_input_product : (("input" : Str) = "product") = False := eq_false (by decide +kernel)
theorem sn_input_scaled : (("input" : Str) = "scaled") = False := eq_false (by decide +kernel)
theorem sn_input_choose : (("input" : Str) = "choose") = False := eq_false (by decide +kernel)
theorem sn_input_add : (("input" : Str) = "add") = False := eq_false (by decide +kernel)
theorem sn_input_scale : (("input" : Str) = "scale") = False := eq_false (by decide +kernel)
theorem sn_input_swap : (("input" : Str) = "swap") = False := eq_false (by decide +kernel)
theorem sn_input_table : (("input" : Str) = "table") = False := eq_false (by decide +kernel)
theorem sn_input_cell : (("input" : Str) = "cell") = False := eq_false (by decide +kernel)
theorem sn_sum_const : (("sum" : Str) = "const") = False := eq_false (by decide +kernel)
theorem sn_sum_input : (("sum" : Str) = "input") = False := eq_false (by decide +kernel)
theorem sn_sum_product : (("sum" : Str) = "product") = False := eq_false (by decide +kernel)
theorem sn_sum_scaled : (("sum" : Str) = "scaled") = False := eq_false (by decide +kernel)
theorem sn_sum_choose : (("sum" : Str) = "choose") = False := eq_false (by decide +kernel)
theorem sn_sum_add : (("sum" : Str) = "add") = False := eq_false (by decide +kernel)
theorem sn_sum_scale : (("sum" : Str) = "scale") = False := eq_false (by decide +kernel)
theorem sn_sum_swap : (("sum" : Str) = "swap") = False := eq_false (by decide +kernel)
theorem sn_sum_table : (("sum" : Str) = "table") = False := eq_false (by decide +kernel)
theorem sn_sum_cell : (("sum" : Str) = "cell") = False := eq_false (by decide +kernel)
theorem sn_product_const : (("product" : Str) = "const") = False := eq_false (by decide +kernel)
theorem sn_product_input : (("product" : Str) = "input") = False := eq_false (by decide +kernel)
theorem sn_product_sum : (("product" : Str) = "sum") = False := eq_false (by decide +kernel)
theorem sn_product_scaled : (("product" : Str) = "scaled") = False := eq_false (by decide +kernel)
theorem sn_product_choose : (("product" : Str) = "choose") = False := eq_false (by decide +kernel)
theorem sn_product_add : (("product" : Str) = "add") = False := eq_false (by decide +kernel)
theorem sn_product_scale : (("product" : Str) = "scale") = False := eq_false (by decide +kernel)
theorem sn_product_swap : (("product" : Str) = "swap") = False := eq_false (by decide +kernel)
theorem sn_product_table : (("product" : Str) = "table") = False := eq_false (by decide +kernel)
theorem sn_product_cell : (("product" : Str) = "cell") = False := eq_false (by decide +kernel)
theorem sn_scaled_const : (("scaled" : Str) = "const") = False := eq_false (by decide +kernel)
theorem sn_scaled_input : (("scaled" : Str) = "input") = False := eq_false (by decide +kernel)
theorem sn_scaled_sum : (("scaled" : Str) = "sum") = False := eq_false (by decide +kernel)
theorem sn_scaled_product : (("scaled" : Str) = "product") = False := eq_false (by decide +kernel)
theorem sn_scaled_choose : (("scaled" : Str) = "choose") = False := eq_false (by decide +kernel)
theorem sn_scaled_add : (("scaled" : Str) = "add") = False := eq_false (by decide +kernel)
theorem sn_scaled_scale : (("scaled" : Str) = "scale") = False := eq_false (by decide +kernel)
theorem sn_scaled_swap : (("scaled" : Str) = "swap") = False := eq_false (by decide +kernel)
theorem sn_scaled_table : (("scaled" : Str) = "table") = False := eq_false (by decide +kernel)
theorem sn_scaled_cell : (("scaled" : Str) = "cell") = False := eq_false (by decide +kernel)
theorem sn_choose_const : (("choose" : Str) = "const") = False := eq_false (by decide +kernel)
theorem sn_choose_input : (("choose" : Str) = "input") = False := eq_false (by decide +kernel)
theorem sn_choose_sum : (("choose" : Str) = "sum") = False := eq_false (by decide +kernel)
theorem sn_choose_product : (("choose" : Str) = "product") = False := eq_false (by decide +kernel)
theorem sn_choose_scaled : (("choose" : Str) = "scaled") = False := eq_false (by decide +kernel)
theorem sn_choose_add : (("choose" : Str) = "add") = False := eq_false (by decide +kernel)
theorem sn_choose_scale : (("choose" : Str) = "scale") = False := eq_false (by decide +kernel)
theorem sn_choose_swap : (("choose" : Str) = "swap") = False := eq_false (by decide +kernel)
theorem sn_choose_table : (("choose" : Str) = "table") = False := eq_false (by decide +kernel)
theorem sn_choose_cell : (("choose" : Str) = "cell") = False := eq_false (by decide +kernel)
theorem sn_add_const : (("add" : Str) = "const") = False := eq_false (by decide +kernel)
theorem sn_add_input : (("add" : Str) = "input") = False := eq_false (by decide +kernel)
theorem sn_add_sum : (("add" : Str) = "sum") = False := eq_false (by decide +kernel)
theorem sn_add_product : (("add" : Str) = "product") = False := eq_false (by decide +kernel)
theorem sn_add_scaled : (("add" : Str) = "scaled") = False := eq_false (by decide +kernel)
theorem sn_add_choose : (("add" : Str) = "choose") = False := eq_false (by decide +kernel)
theorem sn_add_scale : (("add" : Str) = "scale") = False := eq_false (by decide +kernel)
theorem sn_add_swap : (("add" : Str) = "swap") = False := eq_false (by decide +kernel)
theorem sn_add_table : (("add" : Str) = "table") = False := eq_false (by decide +kernel)
theorem sn_add_cell : (("add" : Str) = "cell") = False := eq_false (by decide +kernel)
theorem sn_scale_const : (("scale" : Str) = "const") = False := eq_false (by decide +kernel)
theorem sn_scale_input : (("scale" : Str) = "input") = False := eq_false (by decide +kernel)
theorem sn_scale_sum : (("scale" : Str) = "sum") = False := eq_false (by decide +kernel)
theorem sn_scale_product : (("scale" : Str) = "product") = False := eq_false (by decide +kernel)
theorem sn_scale_scaled : (("scale" : Str) = "scaled") = False := eq_false (by decide +kernel)
theorem sn_scale_choose : (("scale" : Str) = "choose") = False := eq_false (by decide +kernel)
theorem sn_scale_add : (("scale" : Str) = "add") = False := eq_false (by decide +kernel)
theorem sn_scale_swap : (("scale" : Str) = "swap") = False := eq_false (by decide +kernel)
theorem sn_scale_table : (("scale" : Str) = "table") = False := eq_false (by decide +kernel)
theorem sn_scale_cell : (("scale" : Str) = "cell") = False := eq_false (by decide +kernel)
theorem sn_swap_const : (("swap" : Str) = "const") = False := eq_false (by decide +kernel)
theorem sn_swap_input : (("swap" : Str) = "input") = False := eq_false (by decide +kernel)
theorem sn_swap_sum : (("swap" : Str) = "sum") = False := eq_false (by decide +kernel)
theorem sn_swap_product : (("swap" : Str) = "product") = False := eq_false (by decide +kernel)
theorem sn_swap_scaled : (("swap" : Str) = "scaled") = False := eq_false (by decide +kernel)
theorem sn_swap_choose : (("swap" : Str) = "choose") = False := eq_false (by decide +kernel)
theorem sn_swap_add : (("swap" : Str) = "add") = False := eq_false (by decide +kernel)
theorem sn_swap_scale : (("swap" : Str) = "scale") = False := eq_false (by decide +kernel)
theorem sn_swap_table : (("swap" : Str) = "table") = False := eq_false (by decide +kernel)
theorem sn_swap_cell : (("swap" : Str) = "cell") = False := eq_false (by decide +kernel)
theorem sn_table_const : (("table" : Str) = "const") = False := eq_false (by decide +kernel)
theorem sn_table_input : (("table" : Str) = "input") = False := eq_false (by decide +kernel)
theorem sn_table_sum : (("table" : Str) = "sum") = False := eq_false (by decide +kernel)
theorem sn_table_product : (("table" : Str) = "product") = False := eq_false (by decide +kernel)
theorem sn_table_scaled : (("table" : Str) = "scaled") = False := eq_false (by decide +kernel)
theorem sn_table_choose : (("table" : Str) = "choose") = False := eq_false (by decide +kernel)
theorem sn_table_add : (("table" : Str) = "add") = False := eq_false (by decide +kernel)
theorem sn_table_scale : (("table" : Str) = "scale") = False := eq_false (by decide +kernel)
theorem sn_table_swap : (("table" : Str) = "swap") = False := eq_false (by decide +kernel)
theorem sn_table_cell : (("table" : Str) = "cell") = False := eq_false (by decide +kernel)
theorem sn_cell_const : (("cell" : Str) = "const") = False := eq_false (by decide +kernel)
theorem sn_cell_input : (("cell" : Str) = "input") = False := eq_false (by decide +kernel)
theorem sn_cell_sum : (("cell" : Str) = "sum") = False := eq_false (by decide +kernel)
theorem sn_cell_product : (("cell" : Str) = "product") = False := eq_false (by decide +kernel)
theorem sn_cell_scaled : (("cell" : Str) = "scaled") = False := eq_false (by decide +kernel)
theorem sn_cell_choose : (("cell" : Str) = "choose") = False := eq_false (by decide +kernel)
theorem sn_cell_add : (("cell" : Str) = "add") = False := eq_false (by decide +kernel)
theorem sn_cell_scale : (("cell" : Str) = "scale") = False := eq_false (by decide +kernel)
theorem sn_cell_swap : (("cell" : Str) = "swap") = False := eq_false (by decide +kernel)
theorem sn_cell_table : (("cell" : Str) = "table") = False := eq_false (by decide +kernel)
local macro_rules | `(tactic| walk_at "sx") => `(tactic| try simp only [wp_seq, Int.cast_ofNat_Int, or_false, false_or, decide_false, decide_true, Bool.not_false, Bool.not_true, eq_self_iff_true, sn_const_input, sn_const_sum, sn_const_product, sn_const_scaled, sn_const_choose, sn_const_add, sn_const_scale, sn_const_swap, sn_const_table, sn_const_cell, sn_input_const, sn_input_sum, sn_input_product, sn_input_scaled, sn_input_choose, sn_input_add, sn_input_scale, sn_input_swap, sn_input_table, sn_input_cell, sn_sum_const, sn_sum_input, sn_sum_product, sn_sum_scaled, sn_sum_choose, sn_sum_add, sn_sum_scale, sn_sum_swap, sn_sum_table, sn_sum_cell, sn_product_const, sn_product_input, sn_product_sum, sn_product_scaled, sn_product_choose, sn_product_add, sn_product_scale, sn_product_swap, sn_product_table, sn_product_cell, sn_scaled_const, sn_scaled_input, sn_scaled_sum, sn_scaled_product, sn_scaled_choose, sn_scaled_add, sn_scaled_scale, sn_scaled_swap, sn_scaled_table, sn_scaled_cell, sn_choose_const, sn_choose_input, sn_choose_sum, sn_choose_product, sn_choose_scaled, sn_choose_add, sn_choose_scale, sn_choose_swap, sn_choose_table, sn_choose_cell, sn_add_const, sn_add_input, sn_add_sum, sn_add_product, sn_add_scaled, sn_add_choose, sn_add_scale, sn_add_swap, sn_add_table, sn_add_cell, sn_scale_const, sn_scale_input, sn_scale_sum, sn_scale_product, sn_scale_scaled, sn_scale_choose, sn_scale_add, sn_scale_swap, sn_scale_table, sn_scale_cell, sn_swap_const, sn_swap_input, sn_swap_sum, sn_swap_product, sn_swap_scaled, sn_swap_choose, sn_swap_add, sn_swap_scale, sn_swap_table, sn_swap_cell, sn_table_const, sn_table_input, sn_table_sum, sn_table_product, sn_table_scaled, sn_table_choose, sn_table_add, sn_table_scale, sn_table_swap, sn_table_cell, sn_cell_const, sn_cell_input, sn_cell_sum, sn_cell_product, sn_cell_scaled, sn_cell_choose, sn_cell_add, sn_cell_scale, sn_cell_swap, sn_cell_table, wp_exB, wp_bnd, wp_some, wp_none, sAsg, sPar, sRet, sRetN, sDrop, sIf, sNil, sBreak, sCont, sRaise, sAug, sSetI, sAsgT, sFor, eVar, eC, eOp, eUn, eCall, eCB, eTup, eLst, eSl, oNone, oSome, eLm, aNil, aCons, eIf, eChain_r, tVal, bOf, tTru, truD, tAnd, tOr, tNot, eAnd_r, eOr_r, eNot, isN, isNN, D.isNon, tYes, seqI, rng1, rng2,
  Tg.put, setAll, Tg.sl, bnd_ok, bnd_er, bnd_none, exB_ok, exB_er, exB_none, pr_some, pr_none, List.getElem?_cons_zero, List.getElem?_cons_succ, List.set_cons_zero, List.set_cons_succ, List.length_cons, List.length_nil, nxQ_nx, nxQ_rt, nxQ_bk, nxQ_ct, nxQ_xx, fnQ_rt, fnQ_nx, fnQ_xx, lpQ_nx, lpQ_ct, lpQ_bk, lpQ_rt, lpQ_xx, okQ, wp_ite, if_true, reduceCtorEq, Bool.true_eq_false, if_false, decide_eq_true_eq, Bool.false_eq_true, Bool.not_eq_true', decide_eq_false_iff_not, Bool.not_true, Bool.not_false,
  addG_int, addIG_int, subG_int, negG_int, ltG_int, leG_int, gtG_int, geG_int, eqG_int, neG_int, eqG_str, neG_str, eqG_bl, neG_bl, ixG_tup, ixG_fl, lenD_tup, lenD_fl, ixG_r, lenD_r, atI_c0, atI_c1, atI_c2, atI_c3, ixN_2, List.getElem?_concat_length, set_app, if_smP, if_smP2, intG_int, intG_bl, min2_int, max2_int, isiG_non, isiG_int, isiG_bl, isiG_str, isiG_tup, isiG_fl, Ty.sub, modG_ok, divG_ok, mulG_r, mulG_l, powG_10, powG_2, startD, wip, List.map_cons, List.map_nil, List.cons_append, List.nil_append, List.replicate, Nat.sub_self, Nat.zero_le, Nat.reduceLeDiff, Nat.reduceAdd, Nat.reduceSub, Int.reduceNeg, Int.reduceLT, Int.reduceLE, Int.reduceEq, Int.reducePow, Int.reduceMul, Int.reduceAdd, Int.reduceToNat, Nat.reduceLT, Nat.reduceEqDiff, and_self, and_true, true_and, reduceIte, appendG])

def Itm (d : D) : Prop := d.flat = true ∨ ∃ l, d = .tup l
def numB (n : Int) : D → Bool
  | .int i => decide (0 ≤ i ∧ i < n)
  | _ => false
theorem wp_eq {α : Type} {x : Option α} {o : α} (h : Wp x (fun o' => o' = o)) : x = some o := by
  obtain ⟨o', e, rfl⟩ := h
  exact e
def NdeD (M : Hd) (d : D) : Prop := (∃ es, d = .tup es ∧ (∀ e ∈ es, Itm e) ∧ es.length ≤ 6) ∨ d.flat = true ∨ ∃ i es, d = .ref i ∧ M[i]? = some (.lst es)
theorem NdeD.app {M X : Hd} {d : D} (h : NdeD M d) : NdeD (M ++ X) d := by
  rcases h with h | h | ⟨i, es, h1, h2⟩
  · exact .inl h
  · exact .inr (.inl h)
  · exact .inr (.inr ⟨i, es, h1, get_old h2⟩)
theorem add_tup {a b : List D} {M : Hd} (h : a.length + b.length ≤ 16777216) : addG (.tup a) (.tup b) M = some (.ok (.tup (a ++ b)) M) := by
  unfold addG
  dsimp only
  exact if_pos h
theorem wp_eq' {x : Option (Fl × Hd)} {o : Fl × Hd} (h : Wp x (fun o' => o' = o)) : x = some o := by
  obtain ⟨o', e, rfl⟩ := h
  exact e
/-! ### primes -/
def Prm (n : Int) : Prop := 2 ≤ n ∧ ∀ d, 2 ≤ d → d * d ≤ n → n % d ≠ 0
/-- a bool that says Q, the heap as it was -/
def bq (M : Hd) (Q : Prop) : Rs D → Prop := okQ fun d M1 => M1 = M ∧ ∃ b, d = .bl b ∧ (b = true ↔ Q)
theorem even_of {n d : Int} (hd : d % 2 = 0) (h : n % d = 0) : n % 2 = 0 := by
  have a : (2 : Int) ∣ d := Int.dvd_of_emod_eq_zero hd
  exact Int.emod_eq_zero_of_dvd (Int.dvd_trans a (Int.dvd_of_emod_eq_zero h))
theorem sq_ge {d n : Int} (h : 2 ≤ d) (h2 : d * d ≤ n) : 2 * d ≤ n := Int.le_trans (Int.mul_le_mul_of_nonneg_right h (by omega)) h2
theorem sq_le {d e : Int} (h : d ≤ e) (h2 : 0 ≤ d) : d * d ≤ e * e := Int.mul_le_mul h h h2 (by omega)
theorem is_prime_ok {n : Int} {M : Hd} (h : n < 2000000000) : Wp (m_is_prime [.int n] M) (bq M (Prm n)) := by
  refine wp_mir rfl ?_
  unfold g_is_prime bq
  walk_at "di"
  split
  · exact ⟨false, rfl, by simp [Prm]; omega⟩
  · walk_at "di"
    split
    · walk_at "di"
      refine ⟨_, rfl, ?_⟩
      rename_i h2 h0
      simp only [decide_eq_true_eq, Prm]
      constructor
      · rintro rfl
        refine ⟨by omega, fun d h1 h3 => ?_⟩
        have : 2 * 2 ≤ d * d := Int.mul_le_mul h1 h1 (by decide) (by omega)
        omega
      · rintro ⟨h1, h3⟩
        apply Classical.byContradiction
        intro hne
        exact h3 2 (by omega) (by omega) h0
    · walk_at "di"
      rename_i h2 h0
      refine wp_while (n := (n + 2).toNat) (fun k r M1 => ∃ d, r = [some (.int n), some (.int d)] ∧ M1 = M ∧ 3 ≤ d ∧ d % 2 = 1 ∧ d ≤ n + 2 ∧ k + d = n + 5 ∧ ∀ e, 2 ≤ e → e < d → n % e ≠ 0) ?_ ?_
      · rintro k r M1 ⟨d, rfl, rfl, h3, hodd, hdn, hk, hno⟩
        walk_at "di"
        rw [mulG_l (by omega)]
        walk_at "di"
        refine ⟨fun hf => ?_, fun ht => ?_⟩
        · refine ⟨true, rfl, fun _ => ⟨by omega, fun e h1 he => ?_⟩, fun _ => rfl⟩
          apply hno e h1
          apply Classical.byContradiction
          intro hge
          have := sq_le (Int.not_lt.mp hge) (by omega)
          omega
        · have hdd := sq_ge (by omega) ht
          rw [modG_ok (by omega)]
          walk_at "di"
          split
          · rename_i hz
            refine ⟨false, rfl, by simp, fun hp => ?_⟩
            exact (hp.2 d (by omega) ht hz).elim
          · rename_i hz
            refine ⟨k - 2, by omega, d + 2, rfl, by omega, by omega, by omega, by omega, fun e h1 he => ?_⟩
            by_cases h5 : e < d
            · exact hno e h1 h5
            · by_cases h6 : e = d
              · subst h6; exact hz
              · have h7 : e % 2 = 0 := by omega
                exact fun h8 => h0 (even_of h7 h8)
      · refine ⟨3, rfl, rfl, by decide, by decide, by omega, by omega, fun e h1 h3 => ?_⟩
        have : e = 2 := by omega
        subst this
        exact h0
theorem no_div {m : Int} {c : Nat} (hm : 2 ≤ m) (hc : m < (c : Int) * c) (h : (List.range c).all (fun d => decide (d < 2) || decide (m % (d : Int) ≠ 0)) = true) : Prm m := by
  refine ⟨hm, fun d h2 hd hz => ?_⟩
  have hdc : d < c := by
    apply Classical.byContradiction
    intro hge
    have := sq_le (Int.not_lt.mp hge) (by omega)
    omega
  have := List.all_eq_true.mp h d.toNat (List.mem_range.mpr (by omega))
  rw [Int.toNat_of_nonneg (by omega)] at this
  simp only [Bool.or_eq_true, decide_eq_true_eq] at this
  rcases this with h | h
  · omega
  · exact h hz
theorem eight_prm {m : Int} (hm : m ∈ ([2, 3, 5, 7, 11, 13, 101, 999999937] : List Int)) : Prm m := by
  simp only [List.mem_cons, List.mem_nil_iff, or_false] at hm
  rcases hm with rfl | rfl | rfl | rfl | rfl | rfl | rfl | rfl
  · exact no_div (c := 2) (by decide) (by decide) (by decide +kernel)
  · exact no_div (c := 2) (by decide) (by decide) (by decide +kernel)
  · exact no_div (c := 3) (by decide) (by decide) (by decide +kernel)
  · exact no_div (c := 3) (by decide) (by decide) (by decide +kernel)
  · exact no_div (c := 4) (by decide) (by decide) (by decide +kernel)
  · exact no_div (c := 4) (by decide) (by decide) (by decide +kernel)
  · exact no_div (c := 11) (by decide) (by decide) (by decide +kernel)
  · exact no_div (c := 31623) (by decide) (by decide) (by decide +kernel)
/-! ### polynomials that are 1 at one index -/
def aL (p x i : Int) : Nat → Int
  | 0 => 1
  | n + 1 => if (n : Int) = i then aL p x i n else aL p x i n * (x - n) % p
theorem aL_bd {p x i : Int} (hp : 2 ≤ p) (n : Nat) : 0 ≤ aL p x i n ∧ aL p x i n < p := by
  induction n with
  | zero => unfold aL; omega
  | succ n ih =>
    unfold aL
    split
    · exact ih
    · exact ⟨Int.emod_nonneg _ (by omega), Int.emod_lt_of_pos _ (by omega)⟩
theorem aL_zero {p x i : Int} (hp : 2 ≤ p) (hx : 0 ≤ x) (hxi : x ≠ i) {n : Nat} (hn : x < n) : aL p x i n = 0 := by
  induction n with
  | zero => omega
  | succ n ih =>
    unfold aL
    by_cases h : x < n
    · rw [ih h]
      split
      · rfl
      · rw [Int.zero_mul]; rfl
    · have : x = n := by omega
      subst this
      rw [if_neg hxi, Int.sub_self, Int.mul_zero]
      rfl
/-- powers by squaring -/
def pwS (p : Int) : Nat → Int → Int → Int → Int
  | 0, _, _, r => r
  | k + 1, b, e, r => pwS p k (b * b % p) (e / 2) (if e % 2 = 1 then r * b % p else r)
theorem pwS_bd {p : Int} (hp : 2 ≤ p) : ∀ (k : Nat) (b e r : Int), 0 ≤ r → r < p → 0 ≤ pwS p k b e r ∧ pwS p k b e r < p := by
  intro k
  induction k with
  | zero => intro b e r h0 h1; exact ⟨h0, h1⟩
  | succ k ih =>
    intro b e r h0 h1
    unfold pwS
    refine ih _ _ _ ?_ ?_
    · split
      · exact Int.emod_nonneg _ (by omega)
      · exact h0
    · split
      · exact Int.emod_lt_of_pos _ (by omega)
      · exact h1
def pw (p b : Int) : Int := pwS p 40 b (p - 2) 1
theorem pw_bd {p : Int} (hp : 2 ≤ p) (b : Int) : 0 ≤ pw p b ∧ pw p b < p := pwS_bd hp _ _ _ _ (by decide) (by omega)
def Good (p : Int) (c : Nat) : Prop := 2 ≤ p ∧ p < 1099511627776 ∧ c ≤ 40 ∧ ∀ i, i < c → pw p (aL p i i c) * aL p i i c % p = 1
/-- the weight of the index i at x -/
def Wt (p x : Int) (c i : Nat) : Int := aL p x i c * pw p (aL p i i c) % p
theorem Wt_bd {p x : Int} {c i : Nat} (hp : 2 ≤ p) : 0 ≤ Wt p x c i ∧ Wt p x c i < p := ⟨Int.emod_nonneg _ (by omega), Int.emod_lt_of_pos _ (by omega)⟩
theorem Wt_grid {p x : Int} {c i : Nat} (G : Good p c) (h0 : 0 ≤ x) (h1 : x < c) (hi : i < c) : Wt p x c i = if x = i then 1 else 0 := by
  unfold Wt
  split
  · rename_i e
    subst e
    rw [Int.mul_comm]
    exact G.2.2.2 i hi
  · rename_i e
    rw [aL_zero G.1 h0 e h1, Int.zero_mul]
    rfl
/-- an inverse is what the power is -/
theorem inv_eq {p : Int} {b u v : Int} (hp : 2 ≤ p) (hu : u * b % p = 1) (hv : v * b % p = 1) (u0 : 0 ≤ u ∧ u < p) (v0 : 0 ≤ v ∧ v < p) : u = v := by
  have h1 : v * (u * b) % p = v := by
    rw [Int.mul_emod, hu, Int.mul_one, Int.emod_emod]
    exact Int.emod_eq_of_lt v0.1 v0.2
  have h2 : u * (v * b) % p = u := by
    rw [Int.mul_emod, hv, Int.mul_one, Int.emod_emod]
    exact Int.emod_eq_of_lt u0.1 u0.2
  have h3 : v * (u * b) = u * (v * b) := Int.mul_left_comm v u b
  rw [h3] at h1
  exact h2.symm.trans h1
theorem gcd_one {p n : Nat} {u : Int} (h : u * n % p = 1) : Nat.gcd n p = 1 := by
  have d1 : ((Nat.gcd n p : Nat) : Int) ∣ u * n := Int.dvd_mul_of_dvd_right (Int.natCast_dvd_natCast.mpr (Nat.gcd_dvd_left n p))
  have d2 : ((Nat.gcd n p : Nat) : Int) ∣ (p : Int) := Int.natCast_dvd_natCast.mpr (Nat.gcd_dvd_right n p)
  have d3 : ((Nat.gcd n p : Nat) : Int) ∣ 1 := by
    rw [← h, Int.emod_def]
    exact Int.dvd_sub d1 (Int.dvd_mul_of_dvd_left d2)
  exact Nat.dvd_one.mp (Int.natCast_dvd_natCast.mp d3)
theorem weights_ok {p x : Int} {c : Nat} {M : Hd} (G : Good p c) (hx : 0 ≤ x ∧ x < p) :
    Wp (m_weights [.int c, .int p, .int x] M) (okQ fun d M1 => d = .ref M.length ∧ M1 = M ++ [.lst ((List.range c).map fun i => .int (Wt p x c i))]) := by
  obtain ⟨hp, hp2, hc, hG⟩ := id G
  refine wp_mir rfl ?_
  unfold g_weights
  walk_at "di"
  rw [if_smP (by omega)]
  refine wp_forL (fun i r M1 => ∃ a b d e, r = [some (.int c), some (.int p), some (.int x), some (.ref M.length), a, b, d, e] ∧ M1 = M ++ [.lst ((List.range i).map fun i => .int (Wt p x c i))]) ?_ ?_ ?_
  · rintro i d r M1 hd ⟨a, b, d', e, rfl, rfl⟩
    obtain ⟨hi, rfl⟩ := ints_get hd
    refine ⟨by simp, _, rfl, ?_⟩
    walk_at "di"
    rw [if_smP (by omega)]
    refine wp_forL (fun j r M1 => ∃ e, r = [some (.int c), some (.int p), some (.int x), some (.ref M.length), some (.int (0 + (i : Int))), some (.int (aL p x i j)), some (.int (aL p i i j)), e] ∧ M1 = M ++ [.lst ((List.range i).map fun i => .int (Wt p x c i))]) ?_ ?_ ?_
    · rintro j d r M1 hd ⟨e, rfl, rfl⟩
      obtain ⟨hj, rfl⟩ := ints_get hd
      refine ⟨by simp, _, rfl, ?_⟩
      have b1 := aL_bd (x := x) (i := i) hp j
      have b2 := aL_bd (x := i) (i := i) hp j
      walk_at "di"
      split
      · rename_i hne
        walk_at "di"
        rw [mulG_l (by omega)]
        walk_at "di"
        rw [modG_ok (by omega)]
        walk_at "di"
        rw [mulG_l (by omega)]
        walk_at "di"
        rw [modG_ok (by omega)]
        walk_at "di"
        refine ⟨some (.int (0 + (j : Int))), ?_⟩
        have hne : ¬ (j : Int) = i := by omega
        simp only [Int.zero_add, aL, if_neg hne]
      · rename_i hne
        walk_at "di"
        refine ⟨some (.int (0 + (j : Int))), ?_⟩
        have hne : (j : Int) = i := by omega
        simp only [Int.zero_add, aL, if_pos hne]
    · rintro r M1 ⟨e, rfl, rfl⟩
      rw [ints_length]
      refine ⟨by simp, ?_⟩
      have hcc : (c : Int).toNat = c := by omega
      rw [hcc] at hi ⊢
      have b1 := aL_bd (x := x) (i := i) hp c
      have b2 := aL_bd (x := i) (i := i) hp c
      have hgi := hG i hi
      generalize hA : aL p x i c = A at b1
      generalize hB : aL p i i c = B at b2 hgi
      obtain ⟨n, rfl⟩ := Int.eq_ofNat_of_zero_le b2.1
      obtain ⟨q, rfl⟩ := Int.eq_ofNat_of_zero_le (show 0 ≤ p by omega)
      walk_at "di"
      refine (inverse_ok (by omega) (by omega) (by omega)).ok ?_
      rintro d _ ⟨rfl, hI⟩
      rcases hI with ⟨h1, _⟩ | ⟨_, v, rfl, v0, v1, v2⟩
      · exact (h1 (gcd_one hgi)).elim
      walk_at "di"
      rw [mulG_l (by omega)]
      walk_at "di"
      rw [modG_ok (by omega)]
      walk_at "di"
      rw [if_pos (by simp; omega)]
      walk_at "di"
      refine ⟨_, _, _, _, rfl, ?_⟩
      have hv : v = pw q n := inv_eq hp v2 hgi ⟨v0, v1⟩ (pw_bd hp _)
      rw [List.range_succ, List.map_append, List.map_cons, List.map_nil]
      congr 3
      unfold Wt
      rw [hA, hB, hv]
    · exact ⟨e, by rw [aL, aL], rfl⟩
  · rintro r M1 ⟨a, b, d', e, rfl, rfl⟩
    rw [ints_length]
    refine ⟨by simp, ?_⟩
    have hcc : (c : Int).toNat = c := by omega
    rw [hcc]
    walk_at "di"
  · exact ⟨_, _, _, _, rfl, rfl⟩
/-! ### tables -/
def rw_ (c : Nat) (g : Nat → Int) : D := .tup ((List.range c).map fun j => .int (g j))
def tb (c : Nat) (f : Nat → Nat → Int) : D := .tup ((List.range c).map fun i => rw_ c (f i))
def Sm_ (p y : Int) (c : Nat) (g : Nat → Int) : Nat → Int
  | 0 => 0
  | j + 1 => Sm_ p y c g j + g j * Wt p y c j
def Tt (p x y : Int) (c : Nat) (f : Nat → Nat → Int) : Nat → Int
  | 0 => 0
  | n + 1 => (Tt p x y c f n + Wt p x c n * Sm_ p y c (f n) c) % p
theorem Sm_grid {p y : Int} {c : Nat} {g : Nat → Int} (G : Good p c) (h0 : 0 ≤ y) (h1 : y < c) : ∀ n, n ≤ c → Sm_ p y c g n = if y < n then g y.toNat else 0 := by
  intro n
  induction n with
  | zero => intro _; rw [if_neg (by omega)]; first | rw [Sm_] | rw [Tt]
  | succ n ih =>
    intro hn
    unfold Sm_
    rw [ih (by omega), Wt_grid G h0 h1 (by omega)]
    by_cases e : y = n
    · subst e
      rw [if_neg (by omega), if_pos rfl, if_pos (by omega)]
      simp
    · by_cases e2 : y < n
      · rw [if_pos e2, if_neg e, if_pos (by omega)]; simp
      · rw [if_neg e2, if_neg e, if_neg (by omega)]; simp
theorem Tt_grid {p x y : Int} {c : Nat} {f : Nat → Nat → Int} (G : Good p c) (x0 : 0 ≤ x) (x1 : x < c) (y0 : 0 ≤ y) (y1 : y < c) : ∀ n, n ≤ c → Tt p x y c f n = if x < n then f x.toNat y.toNat % p else 0 := by
  intro n
  induction n with
  | zero => intro _; rw [if_neg (by omega)]; first | rw [Sm_] | rw [Tt]
  | succ n ih =>
    intro hn
    unfold Tt
    rw [ih (by omega), Wt_grid G x0 x1 (by omega), Sm_grid G y0 y1 c (Nat.le_refl _), if_pos y1]
    by_cases e : x = n
    · subst e
      rw [if_neg (by omega), if_pos rfl, if_pos (by omega)]
      simp
    · by_cases e2 : x < n
      · rw [if_pos e2, if_neg e, if_pos (by omega)]; simp
      · rw [if_neg e2, if_neg e, if_neg (by omega)]; simp
theorem ix_tb {c : Nat} {f : Nat → Nat → Int} {x : Int} {M : Hd} (h0 : 0 ≤ x) (h1 : x < c) : ixG (tb c f) (.int x) M = some (.ok (rw_ c (f x.toNat)) M) := by
  unfold tb
  rw [ixG_tup, atI_rng h0 h1]
  rfl
theorem ix_rw {c : Nat} {g : Nat → Int} {x : Int} {M : Hd} (h0 : 0 ≤ x) (h1 : x < c) : ixG (rw_ c g) (.int x) M = some (.ok (.int (g x.toNat)) M) := by
  unfold rw_
  rw [ixG_tup, atI_rng h0 h1]
  rfl
theorem len_tb {c : Nat} {f : Nat → Nat → Int} {M : Hd} : lenD (tb c f) M = some (.ok (.int c) M) := by
  unfold tb
  rw [lenD_tup, List.length_map, List.length_range]
theorem zw_map {F H : Nat → D} {c : Nat} : pairsD ((List.range c).map F) ((List.range c).map H) = (List.range c).map fun i => .tup [F i, H i] := by
  unfold pairsD
  rw [List.zipWith_map, List.zipWith_self]
theorem zip2_eq {fa fb : EF} {r : Ev} {M M1 M2 : Hd} {x y : D} {xs ys : List D} {g h : Gd} (e1 : fa r M = some (.ok x M1)) (e2 : fb r M1 = some (.ok y M2)) (e3 : sqD x M2 = some (xs, g)) (e4 : sqD y M2 = some (ys, h)) :
    zip2I fa fb r M = some (.ok (pairsD xs ys, g ++ h) M2) := by
  unfold zip2I
  rw [e1]
  dsimp only [bnd_ok]
  rw [e2]
  dsimp only [bnd_ok]
  rw [e3, e4]
theorem sq_tb (c : Nat) (f : Nat → Nat → Int) {M : Hd} : sqD (tb c f) M = some ((List.range c).map fun i => rw_ c (f i), []) := by unfold tb; rfl
theorem sq_rw (c : Nat) (g : Nat → Int) {M : Hd} : sqD (rw_ c g) M = some ((List.range c).map fun i => .int (g i), []) := by unfold rw_; rfl
theorem sq_ref {k : Nat} {ds : List D} {M : Hd} (h : M[k]? = some (.lst ds)) : sqD (.ref k) M = some (ds, [(k, ds)]) := by
  unfold sqD
  dsimp only
  rw [h]
theorem pairs_get {F H : Nat → D} {c i : Nat} {d : D} (h : (pairsD ((List.range c).map F) ((List.range c).map H))[i]? = some d) : i < c ∧ d = .tup [F i, H i] := by
  rw [zw_map, List.getElem?_map] at h
  by_cases hi : i < c
  · rw [List.getElem?_range hi] at h
    exact ⟨hi, (Option.some.inj h).symm⟩
  · rw [List.getElem?_eq_none (by simpa using hi)] at h
    cases h
theorem pairs_len {F H : Nat → D} {c : Nat} : (pairsD ((List.range c).map F) ((List.range c).map H)).length = c := by
  rw [zw_map, List.length_map, List.length_range]
theorem interpolate_ok {p x y : Int} {c : Nat} {f : Nat → Nat → Int} {M : Hd} (G : Good p c) (hx : 0 ≤ x ∧ x < p) (hy : 0 ≤ y ∧ y < p) :
    Wp (m_interpolate [tb c f, .int p, .int x, .int y] M) (okQ fun d M1 => (∃ X, M1 = M ++ X) ∧ d = .int (Tt p x y c f c)) := by
  obtain ⟨hp, hp2, hc, hG⟩ := id G
  refine wp_mir rfl ?_
  unfold g_interpolate
  walk_at "ds"
  rw [len_tb]
  walk_at "ds"
  refine Wp.imp (Q := fun o => (o = (Fl.rt (.int (Tt p x y c f c)), M)) ∨ o = (Fl.nx [some (tb c f), some (.int p), some (.int x), some (.int y), some (.int c), none, none, none, none, none, none, none, none], M)) ?_ ?_
  · by_cases h : (0 ≤ x ∧ x < c) ∧ (0 ≤ y ∧ y < c)
    · obtain ⟨⟨x0, x1⟩, y0, y1⟩ := h
      walk_at "di"
      simp only [if_pos x0, if_pos y0]
      walk_at "di"
      simp only [if_pos x1]
      walk_at "di"
      simp only [if_pos y1]
      rw [ix_tb x0 x1]
      walk_at "di"
      rw [ix_rw y0 y1]
      walk_at "di"
      rw [modG_ok (by omega)]
      walk_at "di"
      left
      rw [Tt_grid G x0 x1 y0 y1 c (Nat.le_refl _), if_pos x1]
    · walk_at "di"
      by_cases x0 : 0 ≤ x
      · rw [if_pos x0]
        walk_at "di"
        by_cases x1 : x < c
        · rw [if_pos x1]
          walk_at "di"
          by_cases y0 : 0 ≤ y
          · rw [if_pos y0]
            walk_at "di"
            rw [if_neg (fun y1 => h ⟨⟨x0, x1⟩, y0, y1⟩)]
            walk_at "di"
            right
            trivial
          · rw [if_neg y0]
            walk_at "di"
            right
            trivial
        · rw [if_neg x1]
          walk_at "di"
          right
          trivial
      · rw [if_neg x0]
        walk_at "di"
        right
        trivial
  · rintro _ (rfl | rfl)
    · walk_at "di"
      exact ⟨[], by simp⟩
    · walk_at "di"
      refine (weights_ok G hx).ok ?_
      rintro _ _ ⟨rfl, rfl⟩
      walk_at "di"
      refine (weights_ok G hy).ok ?_
      rintro _ _ ⟨rfl, rfl⟩
      walk_at "di"
      have get0 : (M ++ [O.lst ((List.range c).map fun i => .int (Wt p x c i))] ++ [O.lst ((List.range c).map fun i => .int (Wt p y c i))])[M.length]? = some (O.lst ((List.range c).map fun i => .int (Wt p x c i))) := by simp
      rw [zip2_eq rfl rfl (sq_tb c f) (sq_ref get0), wp_some]
      dsimp only
      refine wp_forL (fun i r M1 => ∃ a b d e1 e2, r = [some (tb c f), some (.int p), some (.int x), some (.int y), some (.int c), some (.ref M.length), some (.ref (M ++ [O.lst ((List.range c).map fun i => .int (Wt p x c i))]).length), some (.int (Tt p x y c f i)), a, b, d, e1, e2] ∧
          M1 = M ++ [O.lst ((List.range c).map fun i => .int (Wt p x c i))] ++ [O.lst ((List.range c).map fun i => .int (Wt p y c i))]) ?_ ?_ ?_
      · rintro i d r M1 hd ⟨a, b, d', e1, e2, rfl, rfl⟩
        obtain ⟨hi, rfl⟩ := pairs_get hd
        refine ⟨by simp, _, rfl, ?_⟩
        walk_at "di"
        rw [zip2_eq rfl rfl (sq_rw c (f i)) (sq_ref List.getElem?_concat_length), wp_some]
        dsimp only
        refine wp_forL (fun j r M1 => ∃ e1 e2, r = [some (tb c f), some (.int p), some (.int x), some (.int y), some (.int c), some (.ref M.length), some (.ref (M ++ [O.lst ((List.range c).map fun i => .int (Wt p x c i))]).length), some (.int (Tt p x y c f i)), some (rw_ c (f i)), some (.int (Wt p x c i)), some (.int (Sm_ p y c (f i) j)), e1, e2] ∧
            M1 = M ++ [O.lst ((List.range c).map fun i => .int (Wt p x c i))] ++ [O.lst ((List.range c).map fun i => .int (Wt p y c i))]) ?_ ?_ ?_
        · rintro j d r M1 hd ⟨e1, e2, rfl, rfl⟩
          obtain ⟨hj, rfl⟩ := pairs_get hd
          refine ⟨by simp, _, rfl, ?_⟩
          have wb := Wt_bd (x := y) (c := c) (i := j) hp
          walk_at "di"
          rw [mulG_r (by omega)]
          walk_at "di"
          exact ⟨some (.int (f i j)), some (.int (Wt p y c j)), by rw [Sm_]⟩
        · rintro r M1 ⟨e1, e2, rfl, rfl⟩
          rw [pairs_len]
          refine ⟨by simp, ?_⟩
          have wb := Wt_bd (x := x) (c := c) (i := i) hp
          walk_at "di"
          rw [mulG_l (by omega)]
          walk_at "di"
          rw [modG_ok (by omega)]
          walk_at "di"
          exact ⟨some (rw_ c (f i)), some (.int (Wt p x c i)), some (.int (Sm_ p y c (f i) c)), e1, e2, by rw [Tt]⟩
        · exact ⟨e1, e2, by rw [Sm_], rfl⟩
      · rintro r M1 ⟨a, b, d', e1, e2, rfl, rfl⟩
        rw [pairs_len]
        refine ⟨by simp, ?_⟩
        walk_at "di"
        exact ⟨_, List.append_assoc _ _ _⟩
      · exact ⟨none, none, none, none, none, by rw [Tt], rfl⟩
/-! ### steps of programs -/
inductive Fc where
  | cell (i : Int) | inp (i : Int)
def fcD : Fc → D
  | .cell i => .tup [.str "cell", .int i]
  | .inp i => .tup [.str "input", .int i]
/-- a factor of a step on the cell t, of n cells and k inputs -/
def FcOk (t n k : Int) : Fc → Prop
  | .cell i => (0 ≤ i ∧ i < n) ∧ i ≠ t
  | .inp i => 0 ≤ i ∧ i < k
inductive Sp_ where
  | add (t c : Int) (fs : List Fc) | scale (t u : Int) | swap (a b : Int) | table (t s : Int) (c : Nat) (f : Nat → Nat → Int) (a b : Int)
def spd : Sp_ → D
  | .add t c fs => .tup [.str "add", .int t, .int c, .tup (fs.map fcD)]
  | .scale t u => .tup [.str "scale", .int t, .int u]
  | .swap a b => .tup [.str "swap", .int a, .int b]
  | .table t s c f a b => .tup [.str "table", .int t, .int s, tb c f, .int a, .int b]
/-- a step with modulus m, n cells, k inputs -/
def SpOk (m n k : Int) : Sp_ → Prop
  | .add t c fs => (0 ≤ t ∧ t < n) ∧ (0 ≤ c ∧ c < m) ∧ fs.length ≤ 3 ∧ ∀ x ∈ fs, FcOk t n k x
  | .scale t u => (0 ≤ t ∧ t < n) ∧ (0 ≤ u ∧ u < m) ∧ Nat.gcd u.toNat m.toNat = 1
  | .swap a b => (0 ≤ a ∧ a < n) ∧ (0 ≤ b ∧ b < n) ∧ a ≠ b
  | .table t s c f a b => ((0 ≤ t ∧ t < n) ∧ (0 ≤ a ∧ a < n) ∧ (0 ≤ b ∧ b < n)) ∧ (t ≠ a ∧ t ≠ b ∧ a ≠ b) ∧ (s = 1 ∨ s = m - 1) ∧ (1 ≤ c ∧ (c : Int) ≤ m) ∧ (∀ i j, i < c → j < c → 0 ≤ f i j ∧ f i j < m) ∧ Prm m ∧ Good m c
theorem is_factor_yes {t n k : Int} {x : Fc} {M : Hd} (h : FcOk t n k x) : m_is_factor [fcD x, .int t, .int n, .int k] M = some (.ok (.bl true) M) := by
  refine wp_eq ?_
  refine wp_mir rfl ?_
  unfold g_is_factor
  cases x with
  | cell i =>
    simp only [FcOk] at h
    unfold fcD
    walk_at "di"
    rw [is_number_yes h.1]
    walk_at "di"
    rw [decide_eq_false h.2]
    first | done | rfl
  | inp i =>
    simp only [FcOk] at h
    unfold fcD
    walk_at "sx"
    rw [is_number_yes h]
    walk_at "sx"
theorem is_add_yes {m n k t c : Int} {fs : List Fc} {M : Hd} (h : SpOk m n k (.add t c fs)) : m_is_add [spd (.add t c fs), .int m, .int n, .int k] M = some (.ok (.bl true) M) := by
  obtain ⟨ht, hc, hl, hf⟩ := h
  refine wp_eq ?_
  refine wp_mir rfl ?_
  unfold g_is_add spd
  walk_at "ds"
  refine Wp.imp (Q := fun o => o = (Fl.nx [some (.tup [.str "add", .int t, .int c, .tup (fs.map fcD)]), some (.int m), some (.int n), some (.int k), some (.str "add"), some (.int t), some (.int c), some (.tup (fs.map fcD)), none], M)) ?_ ?_
  · walk_at "di"
    rw [is_number_yes ht]
    walk_at "di"
    rw [is_number_yes hc]
    walk_at "di"
  rintro _ rfl
  walk_at "ds"
  refine Wp.imp (Q := fun o => o = (Fl.nx [some (.tup [.str "add", .int t, .int c, .tup (fs.map fcD)]), some (.int m), some (.int n), some (.int k), some (.str "add"), some (.int t), some (.int c), some (.tup (fs.map fcD)), none], M)) ?_ ?_
  · walk_at "di"
    rw [List.length_map, if_neg (by omega)]
    first | done | trivial | rfl
  rintro _ rfl
  walk_at "ds"
  refine wp_forL (fun i r M1 => ∃ b, r = [some (.tup [.str "add", .int t, .int c, .tup (fs.map fcD)]), some (.int m), some (.int n), some (.int k), some (.str "add"), some (.int t), some (.int c), some (.tup (fs.map fcD)), b] ∧ M1 = M) ?_ ?_ ?_
  · rintro i d r M1 hd ⟨b, rfl, rfl⟩
    rw [List.getElem?_map] at hd
    obtain ⟨x, hx, rfl⟩ := Option.map_eq_some_iff.mp hd
    refine ⟨by simp, _, rfl, ?_⟩
    walk_at "di"
    rw [is_factor_yes (hf x (List.mem_of_getElem? hx))]
    walk_at "di"
    exact ⟨_, rfl⟩
  · rintro r M1 ⟨b, rfl, rfl⟩
    refine ⟨by simp, ?_⟩
    walk_at "ds"
  · exact ⟨none, rfl, rfl⟩
theorem is_table_yes {m : Int} {c : Nat} {f : Nat → Nat → Int} {M : Hd} (h1 : 1 ≤ c ∧ (c : Int) ≤ m) (hf : ∀ i j, i < c → j < c → 0 ≤ f i j ∧ f i j < m) : m_is_table [tb c f, .int m] M = some (.ok (.bl true) M) := by
  refine wp_eq ?_
  refine wp_mir rfl ?_
  unfold g_is_table
  walk_at "ds"
  refine Wp.imp (Q := fun o => o = (Fl.nx [some (tb c f), some (.int m), none, none], M)) ?_ ?_
  · unfold tb
    walk_at "di"
    rw [List.length_map, List.length_range, if_pos (by omega)]
    walk_at "di"
    rw [if_neg (by simp; omega)]
    first | done | trivial | rfl
  rintro _ rfl
  walk_at "ds"
  unfold tb
  walk_at "ds"
  refine wp_forL (fun i r M1 => ∃ a b, r = [some (.tup ((List.range c).map fun i => rw_ c (f i))), some (.int m), a, b] ∧ M1 = M) ?_ ?_ ?_
  · rintro i d r M1 hd ⟨a, b, rfl, rfl⟩
    rw [List.getElem?_map] at hd
    obtain ⟨q, hq, rfl⟩ := Option.map_eq_some_iff.mp hd
    obtain ⟨hic, e⟩ := List.getElem?_eq_some_iff.mp hq
    rw [List.length_range] at hic
    rw [List.getElem_range] at e
    subst e
    refine ⟨by simp, _, rfl, ?_⟩
    walk_at "ds"
    refine Wp.imp (Q := fun o => o = (Fl.nx [some (.tup ((List.range c).map fun i => rw_ c (f i))), some (.int m), some (rw_ c (f i)), b], M1)) ?_ ?_
    · unfold rw_
      walk_at "di"
      rw [List.length_map, List.length_map, if_neg (by simp)]
      first | done | trivial | rfl
    rintro _ rfl
    walk_at "ds"
    unfold rw_
    walk_at "ds"
    refine wp_forL (fun j r M2 => ∃ a b, r = [some (.tup ((List.range c).map fun i => .tup ((List.range c).map fun j => .int (f i j)))), some (.int m), a, b] ∧ M2 = M1) ?_ ?_ ?_
    · rintro j d r M2 hd ⟨a, b, rfl, rfl⟩
      rw [List.getElem?_map] at hd
      obtain ⟨q, hq, rfl⟩ := Option.map_eq_some_iff.mp hd
      obtain ⟨hjc, e⟩ := List.getElem?_eq_some_iff.mp hq
      rw [List.length_range] at hjc
      rw [List.getElem_range] at e
      subst e
      refine ⟨by simp, _, rfl, ?_⟩
      walk_at "di"
      rw [is_number_yes (hf _ _ hic hjc)]
      walk_at "di"
      exact ⟨_, _, rfl⟩
    · rintro r M2 ⟨a, b, rfl, rfl⟩
      refine ⟨by simp, ?_⟩
      rw [lpQ_nx]
      exact ⟨_, _, rfl, rfl⟩
    · exact ⟨_, _, rfl, rfl⟩
  · rintro r M1 ⟨a, b, rfl, rfl⟩
    refine ⟨by simp, ?_⟩
    walk_at "ds"
  · exact ⟨none, none, rfl, rfl⟩
theorem is_integer_int {n : Int} {M : Hd} : m_is_integer [.int n] M = some (.ok (.bl true) M) := by
  refine wp_eq ?_
  refine wp_mir rfl ?_
  unfold g_is_integer
  walk_at "di"
theorem is_look_yes {m n k t s a b : Int} {c : Nat} {f : Nat → Nat → Int} {M : Hd} (h : SpOk m n k (.table t s c f a b)) : m_is_look [spd (.table t s c f a b), .int m, .int n] M = some (.ok (.bl true) M) := by
  obtain ⟨⟨ht, ha, hb⟩, ⟨e1, e2, e3⟩, hs, hc, hf, _⟩ := h
  refine wp_eq ?_
  refine wp_mir rfl ?_
  unfold g_is_look spd
  walk_at "ds"
  simp only [forL, still_nil, if_true, Tg.put]
  walk_at "di"
  rw [is_number_yes ht]
  walk_at "di"
  rw [is_number_yes ha]
  walk_at "di"
  rw [is_number_yes hb]
  walk_at "di"
  rw [if_neg e1]
  walk_at "di"
  rw [if_neg e2]
  walk_at "di"
  rw [if_neg e3]
  walk_at "di"
  rw [is_integer_int]
  walk_at "di"
  have fin : Wp (m_is_table [tb c f, .int m] M) (okQ fun d M1 => Rs.ok d M1 = Rs.ok (.bl true) M) := by
    rw [is_table_yes hc hf]
    walk_at "di"
  rcases hs with hs | hs
  · rw [if_neg (by simp [hs])]
    first | exact fin | (walk_at "di"; exact fin)
  · by_cases h1 : s = 1
    · rw [if_neg (by simp [h1])]
      first | exact fin | (walk_at "di"; exact fin)
    · rw [if_pos h1]
      walk_at "di"
      rw [if_neg (by simp [hs])]
      first | exact fin | (walk_at "di"; exact fin)
theorem is_step_yes {m n k : Int} {x : Sp_} {M : Hd} (hm : 2 ≤ m ∧ m ≤ 1000000000) (h : SpOk m n k x) : m_is_step [spd x, .int m, .int n, .int k] M = some (.ok (.bl true) M) := by
  refine wp_eq ?_
  refine wp_mir rfl ?_
  unfold g_is_step
  cases x with
  | add t c fs =>
    have e := is_add_yes (M := M) h
    unfold spd at e ⊢
    walk_at "sx"
    rw [e]
    walk_at "sx"
  | scale t u =>
    obtain ⟨ht, hu, hg⟩ := h
    unfold spd
    walk_at "sx"
    rw [is_number_yes ht]
    walk_at "sx"
    rw [is_number_yes hu]
    walk_at "sx"
    obtain ⟨u', rfl⟩ := Int.eq_ofNat_of_zero_le hu.1
    obtain ⟨m', rfl⟩ := Int.eq_ofNat_of_zero_le (show 0 ≤ m by omega)
    refine (inverse_ok (by omega) (by omega) (by omega)).ok ?_
    rintro v _ ⟨rfl, hv⟩
    rcases hv with ⟨hv, rfl⟩ | ⟨hv, v, rfl, _⟩
    · exact absurd hg (by rw [Int.toNat_natCast, Int.toNat_natCast]; omega)
    · walk_at "sx"
  | swap a b =>
    obtain ⟨ha, hb, hne⟩ := h
    unfold spd
    walk_at "sx"
    rw [is_number_yes ha]
    walk_at "sx"
    rw [is_number_yes hb]
    walk_at "sx"
    rw [decide_eq_false hne]
    first | done | rfl
  | table t s c f a b =>
    have e := is_look_yes (M := M) h
    unfold spd at e ⊢
    walk_at "sx"
    rw [e]
    walk_at "sx"
/-- a list of steps that is right; looks: a table step is among them -/
theorem check_steps_ok {m n k : Int} {xs : List Sp_} {q : Nat} {M : Hd} (hm : 2 ≤ m ∧ m ≤ 1000000000) (hl : xs.length ≤ 20000) (hx : ∀ x ∈ xs, SpOk m n k x) (hp : (∀ x ∈ xs, ∀ t s c f a b, x ≠ .table t s c f a b) ∨ m_is_prime [.int m] M = some (.ok (.bl true) M)) (hq : M[q]? = some (.lst (xs.map spd))) :
    m_check_steps [.ref q, .int m, .int n, .int k, .int 20000] M = some (.ok .non M) := by
  refine wp_eq ?_
  refine wp_mir rfl ?_
  unfold g_check_steps
  walk_at "ds"
  refine Wp.imp (Q := fun o => o = (Fl.nx [some (.ref q), some (.int m), some (.int n), some (.int k), some (.int 20000), none, none], M)) ?_ ?_
  · walk_at "di"
    rw [isiG_ref hq]
    walk_at "di"
    rw [hq]
    walk_at "di"
    rw [List.length_map, if_neg (by omega)]
    first | done | trivial | rfl
  rintro _ rfl
  walk_at "ds"
  rw [hq]
  walk_at "ds"
  refine wp_forL (fun i r M1 => ∃ (l : Bool) (b : Option D), r = [some (.ref q), some (.int m), some (.int n), some (.int k), some (.int 20000), some (.bl l), b] ∧ M1 = M ∧ (l = true → ∃ x ∈ xs, ∃ t s c f a b, x = .table t s c f a b)) ?_ ?_ ?_
  · rintro i d r M1 hd ⟨l, b, rfl, rfl, hlk⟩
    rw [List.getElem?_map] at hd
    obtain ⟨x, hxi, rfl⟩ := Option.map_eq_some_iff.mp hd
    have hxm := List.mem_of_getElem? hxi
    refine ⟨by simp only [still_one, still_nil, and_true]; exact hq, _, rfl, ?_⟩
    walk_at "ds"
    refine Wp.imp (Q := fun o => o = (Fl.nx [some (.ref q), some (.int m), some (.int n), some (.int k), some (.int 20000), some (.bl l), some (spd x)], M1)) ?_ ?_
    · walk_at "di"
      rw [is_step_yes hm (hx x hxm)]
      walk_at "di"
    rintro _ rfl
    cases l with
    | true =>
      walk_at "ds"
      exact ⟨_, _, rfl, hlk⟩
    | false =>
      cases x with
      | table t s c f a b =>
        unfold spd
        walk_at "sx"
        exact ⟨_, _, rfl, fun _ => ⟨_, hxm, t, s, c, f, a, b, rfl⟩⟩
      | add t c fs =>
        unfold spd
        walk_at "sx"
        exact ⟨_, _, rfl, fun h => nomatch h⟩
      | scale t u =>
        unfold spd
        walk_at "sx"
        exact ⟨_, _, rfl, fun h => nomatch h⟩
      | swap a b =>
        unfold spd
        walk_at "sx"
        exact ⟨_, _, rfl, fun h => nomatch h⟩
  · rintro r M1 ⟨l, b, rfl, rfl, hlk⟩
    refine ⟨by simp only [still_one, still_nil, and_true]; exact hq, ?_⟩
    walk_at "di"
    cases l with
    | false => walk_at "di"
    | true =>
      walk_at "di"
      rcases hp with hp | hp
      · obtain ⟨x, hxm, t, s, c, f, a, b, e⟩ := hlk rfl
        exact absurd e (hp x hxm t s c f a b)
      · rw [hp]
        walk_at "di"
  · exact ⟨false, none, rfl, rfl, fun h => nomatch h⟩
/-! ### programs -/
def progO (m n k : Int) (p : Nat) : O := .ins "Program" [("modulus", .int m), ("cells", .int n), ("inputs", .int k), ("steps", .ref p)]
theorem rng_go {r : Ev} {M : Hd} {j : Nat} {v lo hi : Int} {Q : Fl × Hd → Prop} {f : SF} (hr : r[j]? = some (some (.int v))) (h1 : lo ≤ v ∧ v ≤ hi) (h : Wp (f r M) Q) :
    Wp (sSeq (sIf (tOr (tNot (tTru (eCall m_is_integer (aCons (eVar j) aNil)))) (tNot (tVal (eChain leG leG (eC (.int lo)) (eVar j) (eC (.int hi)))))) (sRaise "BadStep") sNil) f r M) Q := by
  rw [wp_seq]
  refine Wp.imp (Q := fun o => o = (Fl.nx r, M)) ?_ ?_
  · simp only [sIf, tOr, tNot, tTru, truD, eCall, aCons, aNil, eVar, hr, wp_exB, wp_bnd, wp_some, wp_ite]
    rw [is_integer_int]
    walk_at "di"
    rw [hr]
    walk_at "di"
    rw [if_pos h1.1]
    walk_at "di"
    rw [if_neg (by simp; omega)]
    first | done | trivial | rfl
  · rintro _ rfl
    rw [nxQ_nx]
    exact h
theorem fld_eq {c f : Str} {fo fe : EF} {r : Ev} {M M1 : Hd} {d : D} {i : Nat} {fs : List (Str × D)} (he : fe r M = some (.ok d M1)) (ho : fo r M1 = some (.ok (.ref i) M1)) (hi : M1[i]? = some (.ins c fs)) (hl : fs.length < 1000) : sFld c f fo fe r M = some (.nx r, M1.set i (.ins c (putFD f d fs))) := by
  unfold sFld
  rw [he, exB_ok, ho, exB_ok]
  dsimp only
  rw [hi]
  dsimp only
  rw [if_pos ⟨rfl, hl⟩]
theorem fld_go {c f : Str} {fo fe : EF} {r : Ev} {M M1 : Hd} {d : D} {i : Nat} {fs : List (Str × D)} {g : SF} {Q : Fl × Hd → Prop} (he : fe r M = some (.ok d M1)) (ho : fo r M1 = some (.ok (.ref i) M1)) (hi : M1[i]? = some (.ins c fs)) (hl : fs.length < 1000) (h : Wp (g r (M1.set i (.ins c (putFD f d fs)))) Q) : Wp (sSeq (sFld c f fo fe) g r M) Q := by
  rw [wp_seq]
  refine wp_of_eq (fld_eq he ho hi hl) ?_
  rw [nxQ_nx]
  exact h
theorem set_get {M : Hd} {i : Nat} {o o2 : O} (h : M[i]? = some o) : (M.set i o2)[i]? = some o2 := by
  rw [List.getElem?_set_self (List.getElem?_eq_some_iff.mp h).1]
theorem pf2 {x y : D} : putFD "cells" y [("modulus", x)] = ([("modulus", x), ("cells", y)] : List (Str × D)) := by
  unfold putFD
  rw [if_neg (by decide +kernel)]
  rfl
theorem pf3 {x y z : D} : putFD "inputs" z [("modulus", x), ("cells", y)] = ([("modulus", x), ("cells", y), ("inputs", z)] : List (Str × D)) := by
  unfold putFD
  rw [if_neg (by decide +kernel)]
  unfold putFD
  rw [if_neg (by decide +kernel)]
  rfl
theorem pf4 {x y z u : D} : putFD "steps" u [("modulus", x), ("cells", y), ("inputs", z)] = ([("modulus", x), ("cells", y), ("inputs", z), ("steps", u)] : List (Str × D)) := by
  unfold putFD
  rw [if_neg (by decide +kernel)]
  unfold putFD
  rw [if_neg (by decide +kernel)]
  unfold putFD
  rw [if_neg (by decide +kernel)]
  rfl
theorem init_ok {m n k : Int} {xs : List Sp_} {i q : Nat} {M : Hd} (hm : 2 ≤ m ∧ m ≤ 1000000000) (hn : 1 ≤ n ∧ n ≤ 60) (hk : 0 ≤ k ∧ k ≤ 60) (hs : m_check_steps [.ref q, .int m, .int n, .int k, .int 20000] M = some (.ok .non M)) (hi : M[i]? = some (.ins "Program" [])) (hq : M[q]? = some (.lst (xs.map spd))) (hiq : i ≠ q) :
    Wp (m_Program___init__ [.ref i, .int m, .int n, .int k, .ref q] M) (okQ fun d M1 => d = .non ∧ M1 = (M ++ [O.lst (xs.map spd)]).set i (progO m n k M.length)) := by
  refine wp_mir rfl ?_
  unfold g_Program___init__
  have hst : startD N_Program___init__.length [.ref i, .int m, .int n, .int k, .ref q] = [some (.ref i), some (.int m), some (.int n), some (.int k), some (.ref q)] := rfl
  rw [hst]
  refine rng_go rfl hm ?_
  refine rng_go rfl hn ?_
  refine rng_go rfl hk ?_
  rw [wp_seq]
  have e1 : sDrop (eCall m_check_steps (aCons (eVar 4) (aCons (eVar 1) (aCons (eVar 2) (aCons (eVar 3) (aCons (eC (.int 20000)) aNil)))))) [some (.ref i), some (.int m), some (.int n), some (.int k), some (.ref q)] M = some (Fl.nx [some (.ref i), some (.int m), some (.int n), some (.int k), some (.ref q)], M) := wp_eq' (by
    walk_at "ds"
    rw [hs]
    walk_at "ds")
  refine wp_of_eq e1 ?_
  rw [nxQ_nx]
  have hlt : i < M.length := (List.getElem?_eq_some_iff.mp hi).1
  have h1 := set_get (o2 := .ins "Program" [("modulus", .int m)]) hi
  refine fld_go (d := .int m) rfl rfl hi (by decide) ?_
  rw [show putFD "modulus" (.int m) [] = ([("modulus", .int m)] : List (Str × D)) from rfl]
  have h2 := set_get (o2 := .ins "Program" [("modulus", .int m), ("cells", .int n)]) h1
  refine fld_go (d := .int n) rfl rfl h1 (by simp) ?_
  rw [pf2]
  have h3 := set_get (o2 := .ins "Program" [("modulus", .int m), ("cells", .int n), ("inputs", .int k)]) h2
  refine fld_go (d := .int k) rfl rfl h2 (by simp) ?_
  rw [pf3]
  rw [List.set_set, List.set_set] at h3 ⊢
  have hq2 : (M.set i (.ins "Program" [("modulus", .int m), ("cells", .int n), ("inputs", .int k)]))[q]? = some (.lst (xs.map spd)) := by
    rw [List.getElem?_set_ne hiq]
    exact hq
  have e2 : sFld "Program" "steps" (eVar 0) (eUn listG (eVar 4)) [some (.ref i), some (.int m), some (.int n), some (.int k), some (.ref q)] (M.set i (.ins "Program" [("modulus", .int m), ("cells", .int n), ("inputs", .int k)])) = some (.nx [some (.ref i), some (.int m), some (.int n), some (.int k), some (.ref q)], (M.set i (.ins "Program" [("modulus", .int m), ("cells", .int n), ("inputs", .int k)]) ++ [O.lst (xs.map spd)]).set i (.ins "Program" (putFD "steps" (.ref M.length) [("modulus", .int m), ("cells", .int n), ("inputs", .int k)]))) := by
    refine fld_eq ?_ rfl (get_old h3) (by simp)
    simp only [eUn, eVar, List.getElem?_cons_zero, List.getElem?_cons_succ, bnd_ok]
    rw [listG_ref hq2, List.length_set]
  refine wp_of_eq e2 ?_
  rw [fnQ_nx, pf4]
  refine ⟨rfl, ?_⟩
  rw [List.set_append_left _ _ (by rw [List.length_set]; exact hlt), List.set_append_left _ _ hlt, List.set_set]
  rfl
theorem lk_cells {m n k : Int} {p : Nat} : List.lookup ("cells" : Str) [("modulus", D.int m), ("cells", .int n), ("inputs", .int k), ("steps", .ref p)] = some (.int n) := by
  rw [List.lookup_cons, show (("cells" : Str) == "modulus") = false from by decide +kernel]
  rfl
theorem lk_inputs {m n k : Int} {p : Nat} : List.lookup ("inputs" : Str) [("modulus", D.int m), ("cells", .int n), ("inputs", .int k), ("steps", .ref p)] = some (.int k) := by
  rw [List.lookup_cons, show (("inputs" : Str) == "modulus") = false from by decide +kernel]
  dsimp only
  rw [List.lookup_cons, show (("inputs" : Str) == "cells") = false from by decide +kernel]
  rfl
theorem lk_steps {m n k : Int} {p : Nat} : List.lookup ("steps" : Str) [("modulus", D.int m), ("cells", .int n), ("inputs", .int k), ("steps", .ref p)] = some (.ref p) := by
  rw [List.lookup_cons, show (("steps" : Str) == "modulus") = false from by decide +kernel]
  dsimp only
  rw [List.lookup_cons, show (("steps" : Str) == "cells") = false from by decide +kernel]
  dsimp only
  rw [List.lookup_cons, show (("steps" : Str) == "inputs") = false from by decide +kernel]
  rfl
/-! ### a step performed -/
theorem cg_in {m : Int} {vs : List Int} (hm : 0 < m) (h : ∀ v ∈ vs, 0 ≤ v ∧ v < m) (c : Int) : 0 ≤ cg vs c ∧ cg vs c < m := by
  unfold cg
  rw [List.getD_eq_getElem?_getD]
  cases e : vs[c.toNat]? with
  | none => exact ⟨Int.le_refl _, hm⟩
  | some v => exact h v (List.mem_of_getElem? e)
def facV (mem gs : List Int) : Fc → Int
  | .cell i => cg mem i
  | .inp i => cg gs i
def addV (m : Int) (mem gs : List Int) (c : Int) (fs : List Fc) : Int := fs.foldl (fun a x => a * facV mem gs x % m) c
def doS (m : Int) (gs mem : List Int) : Sp_ → List Int
  | .add t c fs => mem.set t.toNat ((cg mem t + addV m mem gs c fs) % m)
  | .scale t u => mem.set t.toNat (cg mem t * u % m)
  | .swap a b => (mem.set a.toNat (cg mem b)).set b.toNat (cg mem a)
  | .table t s c f a b => mem.set t.toNat ((cg mem t + s * Tt m (cg mem a) (cg mem b) c f c) % m)
theorem doS_len {m : Int} {gs mem : List Int} {x : Sp_} : (doS m gs mem x).length = mem.length := by
  cases x <;> unfold doS <;> simp
theorem mem_set {P : Int → Prop} {l : List Int} {i : Nat} {v : Int} (h : ∀ x ∈ l, P x) (hv : P v) : ∀ x ∈ l.set i v, P x := fun x hx => by
  rcases List.mem_or_eq_of_mem_set hx with hx | rfl
  · exact h x hx
  · exact hv
theorem doS_in {m : Int} {gs mem : List Int} {x : Sp_} (hm : 0 < m) (h : ∀ v ∈ mem, 0 ≤ v ∧ v < m) : ∀ v ∈ doS m gs mem x, 0 ≤ v ∧ v < m := by
  have md : ∀ y : Int, 0 ≤ y % m ∧ y % m < m := fun y => ⟨Int.emod_nonneg _ (by omega), Int.emod_lt_of_pos _ hm⟩
  cases x with
  | add t c fs => exact mem_set h (md _)
  | scale t u => exact mem_set h (md _)
  | swap a b => exact mem_set (mem_set h (cg_in hm h _)) (cg_in hm h _)
  | table t s c f a b => exact mem_set h (md _)
theorem addV_in {m : Int} {mem gs : List Int} (hm : 0 < m) : ∀ (fs : List Fc) (c : Int), 0 ≤ c ∧ c < m → 0 ≤ addV m mem gs c fs ∧ addV m mem gs c fs < m
  | [], c, h => h
  | x :: fs, c, h => addV_in hm fs _ ⟨Int.emod_nonneg _ (by omega), Int.emod_lt_of_pos _ hm⟩
theorem ixN_cg {l : List Int} {t : Int} (h : 0 ≤ t ∧ t < l.length) : ixN (l.map D.int).length t = some t.toNat := by
  unfold ixN
  rw [List.length_map]
  simp [h.1, h.2]
theorem map_setI {vs : List Int} {k : Nat} {b : Int} : (vs.map D.int).set k (.int b) = (vs.set k b).map D.int := by
  rw [List.map_set]
theorem perform_ok {m n k : Int} {x : Sp_} {p q : Nat} {M : Hd} {mem gs : List Int} (hm : 2 ≤ m ∧ m ≤ 1000000000) (hx : SpOk m n k x) (hp : M[p]? = some (.lst (mem.map D.int))) (hq : M[q]? = some (.lst (gs.map D.int))) (hn : (mem.length : Int) = n) (hk : (gs.length : Int) = k) (hmem : ∀ v ∈ mem, 0 ≤ v ∧ v < m) (hgs : ∀ v ∈ gs, 0 ≤ v ∧ v < m) (hpq : p ≠ q) :
    Wp (m_perform [spd x, .ref p, .ref q, .int m] M) (okQ fun d M1 => ∃ X, M1 = M.set p (.lst ((doS m gs mem x).map D.int)) ++ X) := by
  have hc := cg_in (show 0 < m by omega) hmem
  refine wp_mir rfl ?_
  unfold g_perform
  cases x with
  | scale t u =>
    obtain ⟨ht, hu, hg⟩ := hx
    have := hc t
    unfold spd
    walk_at "sx"
    rw [hp]
    walk_at "sx"
    rw [atI_cs (by omega)]
    walk_at "sx"
    rw [mulG_l (by omega)]
    walk_at "sx"
    rw [modG_ok (by omega)]
    walk_at "sx"
    rw [hp]
    dsimp only
    rw [ixN_cg (by omega)]
    walk_at "sx"
    refine ⟨[], ?_⟩
    rw [List.append_nil, map_setI]
    rfl
  | swap a b =>
    obtain ⟨ha, hb, hne⟩ := hx
    unfold spd
    walk_at "sx"
    rw [hp]
    walk_at "sx"
    rw [atI_cs (by omega)]
    walk_at "sx"
    rw [hp]
    walk_at "sx"
    rw [atI_cs (by omega)]
    walk_at "sx"
    rw [hp]
    dsimp only
    rw [ixN_cg (by omega)]
    walk_at "sx"
    rw [set_get hp, map_setI]
    dsimp only
    rw [ixN_cg (by rw [List.length_set]; omega)]
    walk_at "sx"
    refine ⟨[], ?_⟩
    rw [List.append_nil, map_setI, List.set_set]
    rfl
  | table t s c f a b =>
    obtain ⟨⟨ht, ha, hb⟩, _, hs, hcm, hf, hmp, hG⟩ := hx
    unfold spd
    have i4 : atI [D.str "table", .int t, .int s, tb c f, .int a, .int b] 4 = some (.int a) := rfl
    have i5 : atI [D.str "table", .int t, .int s, tb c f, .int a, .int b] 5 = some (.int b) := rfl
    walk_at "sx"
    rw [i4]
    walk_at "sx"
    rw [hp]
    walk_at "sx"
    rw [atI_cs (by omega)]
    walk_at "sx"
    rw [i5]
    walk_at "sx"
    rw [hp]
    walk_at "sx"
    rw [atI_cs (by omega)]
    walk_at "sx"
    refine (interpolate_ok (hG) (hc a) (hc b)).ok ?_
    rintro _ _ ⟨⟨X, rfl⟩, rfl⟩
    have hp2 := get_old (Z := X) hp
    walk_at "sx"
    rw [hp2]
    walk_at "sx"
    rw [atI_cs (by omega)]
    walk_at "sx"
    rw [mulG_l (by omega)]
    walk_at "sx"
    rw [modG_ok (by omega)]
    walk_at "sx"
    rw [hp2]
    dsimp only
    rw [ixN_cg (by omega)]
    walk_at "sx"
    refine ⟨X, ?_⟩
    rw [map_setI, List.set_append_left _ _ (List.getElem?_eq_some_iff.mp hp).1]
    rfl
  | add t c fs =>
    obtain ⟨ht, hcc, hl, hfs⟩ := hx
    unfold spd
    walk_at "sx"
    refine wp_forL (fun i r M1 => ∃ (a b : Option D), r = [some (.tup [.str "add", .int t, .int c, .tup (fs.map fcD)]), some (.ref p), some (.ref q), some (.int m), some (.int (addV m mem gs c (fs.take i))), a, b, none, none] ∧ M1 = M) ?_ ?_ ?_
    · rintro i d r M1 hd ⟨a, b, rfl, rfl⟩
      rw [List.getElem?_map] at hd
      obtain ⟨x, hx, rfl⟩ := Option.map_eq_some_iff.mp hd
      have hxm := hfs x (List.mem_of_getElem? hx)
      have hav := addV_in (mem := mem) (gs := gs) (show 0 < m by omega) (fs.take i) c hcc
      have e : addV m mem gs c (fs.take (i + 1)) = addV m mem gs c (fs.take i) * facV mem gs x % m := by
        unfold addV
        rw [List.take_succ, hx, List.foldl_append]
        rfl
      rw [e]
      generalize addV m mem gs c (fs.take i) = av at hav ⊢
      cases x with
      | cell j =>
        simp only [FcOk] at hxm
        unfold fcD facV
        refine ⟨by simp, _, rfl, ?_⟩
        generalize D.tup [.str "add", .int t, .int c, .tup (fs.map fcD)] = T
        walk_at "sx"
        rw [hp]
        walk_at "sx"
        rw [atI_cs (by omega)]
        walk_at "sx"
        rw [mulG_l (by omega)]
        walk_at "sx"
        rw [modG_ok (by omega)]
        walk_at "sx"
        exact ⟨_, _, rfl⟩
      | inp j =>
        simp only [FcOk] at hxm
        unfold fcD facV
        refine ⟨by simp, _, rfl, ?_⟩
        generalize D.tup [.str "add", .int t, .int c, .tup (fs.map fcD)] = T
        walk_at "sx"
        rw [hq]
        walk_at "sx"
        rw [atI_cs (by omega)]
        walk_at "sx"
        rw [mulG_l (by omega)]
        walk_at "sx"
        rw [modG_ok (by omega)]
        walk_at "sx"
        exact ⟨_, _, rfl⟩
    · rintro r M1 ⟨a, b, rfl, rfl⟩
      rw [List.length_map, List.take_length]
      refine ⟨by simp, ?_⟩
      walk_at "sx"
      rw [hp]
      walk_at "sx"
      rw [atI_cs (by omega)]
      walk_at "sx"
      rw [modG_ok (by omega)]
      walk_at "sx"
      rw [hp]
      dsimp only
      rw [ixN_cg (by omega)]
      walk_at "sx"
      refine ⟨[], ?_⟩
      rw [List.append_nil, map_setI]
      rfl
    · exact ⟨none, none, rfl, rfl⟩
/-! ### run -/
theorem check_numbers_ok {N m : Int} {M : Hd} {q : Nat} {gs : List Int} (hg : M[q]? = some (.lst (gs.map D.int))) (hl : (gs.length : Int) = N) (hgs : ∀ v ∈ gs, 0 ≤ v ∧ v < m) : m_check_numbers [.ref q, .int N, .int m] M = some (.ok .non M) := by
  refine wp_eq ?_
  refine wp_mir rfl ?_
  unfold g_check_numbers
  walk_at "ds"
  refine Wp.imp (Q := fun o => o = (Fl.nx [some (.ref q), some (.int N), some (.int m), none], M)) ?_ ?_
  · walk_at "di"
    rw [isiG_ref hg]
    walk_at "di"
    rw [hg]
    walk_at "di"
    rw [List.length_map, if_neg (by simp; omega)]
    first | done | trivial | rfl
  rintro _ rfl
  walk_at "ds"
  rw [hg]
  walk_at "ds"
  refine wp_forL (fun i r M1 => ∃ (b : Option D), r = [some (.ref q), some (.int N), some (.int m), b] ∧ M1 = M) ?_ ?_ ?_
  · rintro i d r M1 hd ⟨b, rfl, rfl⟩
    rw [List.getElem?_map] at hd
    obtain ⟨n, hn, rfl⟩ := Option.map_eq_some_iff.mp hd
    refine ⟨by simp only [still_one, still_nil, and_true]; exact hg, _, rfl, ?_⟩
    walk_at "di"
    rw [is_number_yes (hgs n (List.mem_of_getElem? hn))]
    walk_at "di"
    exact ⟨_, rfl⟩
  · rintro r M1 ⟨b, rfl, rfl⟩
    refine ⟨by simp only [still_one, still_nil, and_true]; exact hg, ?_⟩
    walk_at "ds"
  · exact ⟨none, rfl, rfl⟩
def BadV (M : Hd) (n m : Int) (d : D) : Prop := (∃ ds, d = .tup ds) ∨ ∃ i ds, d = .ref i ∧ M[i]? = some (.lst ds) ∧ (∀ e ∈ ds, Itm e) ∧ ((ds.length : Int) ≠ n ∨ ∃ e, e ∈ ds ∧ numB m e = false)
theorem fldP {m n k : Int} {s i : Nat} {M : Hd} (h : M[i]? = some (progO m n k s)) : fldG "Program" "modulus" (.ref i) M = some (.ok (.int m) M) ∧ fldG "Program" "cells" (.ref i) M = some (.ok (.int n) M) ∧ fldG "Program" "inputs" (.ref i) M = some (.ok (.int k) M) ∧ fldG "Program" "steps" (.ref i) M = some (.ok (.ref s) M) := by
  unfold progO at h
  refine ⟨?_, ?_, ?_, ?_⟩
  · unfold fldG
    dsimp only
    rw [h]
    rfl
  · unfold fldG
    dsimp only
    rw [h]
    dsimp only
    rw [if_pos rfl, lk_cells]
    rfl
  · unfold fldG
    dsimp only
    rw [h]
    dsimp only
    rw [if_pos rfl, lk_inputs]
    rfl
  · unfold fldG
    dsimp only
    rw [h]
    dsimp only
    rw [if_pos rfl, lk_steps]
    rfl
/-- the memory behind steps -/
def ran (m : Int) (gs mem : List Int) (xs : List Sp_) : List Int := xs.foldl (doS m gs) mem
theorem ran_take {m : Int} {gs mem : List Int} {xs : List Sp_} {i : Nat} {x : Sp_} (h : xs[i]? = some x) : ran m gs mem (xs.take (i + 1)) = doS m gs (ran m gs mem (xs.take i)) x := by
  unfold ran
  rw [List.take_succ, h, List.foldl_append]
  rfl
theorem ran_inv {m : Int} {gs : List Int} (hm : 0 < m) : ∀ (xs : List Sp_) (mem : List Int), (∀ v ∈ mem, 0 ≤ v ∧ v < m) → (ran m gs mem xs).length = mem.length ∧ ∀ v ∈ ran m gs mem xs, 0 ≤ v ∧ v < m
  | [], mem, h => ⟨rfl, h⟩
  | x :: xs, mem, h => by
    obtain ⟨h1, h2⟩ := ran_inv hm xs (doS m gs mem x) (doS_in hm h)
    exact ⟨h1.trans doS_len, h2⟩
theorem run_ok {m n k : Int} {xs : List Sp_} {i s p q : Nat} {M : Hd} {mem gs : List Int} (hm : 2 ≤ m ∧ m ≤ 1000000000) (hx : ∀ x ∈ xs, SpOk m n k x) (hi : M[i]? = some (progO m n k s)) (hs : M[s]? = some (.lst (xs.map spd))) (hp : M[p]? = some (.lst (mem.map D.int))) (hq : M[q]? = some (.lst (gs.map D.int))) (hn : (mem.length : Int) = n) (hk : (gs.length : Int) = k) (hmem : ∀ v ∈ mem, 0 ≤ v ∧ v < m) (hgs : ∀ v ∈ gs, 0 ≤ v ∧ v < m) :
    Wp (m_Program_run [.ref i, .ref p, .ref q] M) (okQ fun d M1 => d = .ref M.length ∧ ∃ X, M1 = M ++ .lst ((ran m gs mem xs).map D.int) :: X) := by
  obtain ⟨f1, f2, f3, f4⟩ := fldP hi
  refine wp_mir rfl ?_
  unfold g_Program_run
  walk_at "ds"
  rw [f2]
  walk_at "ds"
  rw [f1]
  walk_at "ds"
  rw [check_numbers_ok hp hn hmem]
  walk_at "ds"
  rw [f3]
  walk_at "ds"
  rw [f1]
  walk_at "ds"
  rw [check_numbers_ok hq hk hgs]
  walk_at "ds"
  rw [listG_ref hp]
  walk_at "ds"
  rw [(fldP (get_old hi)).2.2.2]
  walk_at "ds"
  rw [get_old hs]
  walk_at "ds"
  refine wp_forL (fun j r M1 => ∃ (b : Option D) (X : Hd), r = [some (.ref i), some (.ref p), some (.ref q), some (.ref M.length), b] ∧ M1 = M ++ .lst ((ran m gs mem (xs.take j)).map D.int) :: X) ?_ ?_ ?_
  · rintro j d r M1 hd ⟨b, X, rfl, rfl⟩
    rw [List.getElem?_map] at hd
    obtain ⟨x, hxj, rfl⟩ := Option.map_eq_some_iff.mp hd
    refine ⟨by simp only [still_one, still_nil, and_true]; exact get_old hs, _, rfl, ?_⟩
    rw [ran_take hxj]
    obtain ⟨r1, r2⟩ := ran_inv (gs := gs) (show 0 < m by omega) (xs.take j) mem hmem
    generalize ran m gs mem (xs.take j) = mm at r1 r2 ⊢
    walk_at "ds"
    rw [(fldP (get_old hi)).1]
    walk_at "ds"
    refine (perform_ok hm (hx x (List.mem_of_getElem? hxj)) get_mid (get_old hq) (by omega) hk r2 hgs (fun e => ?_)).ok ?_
    · have := (List.getElem?_eq_some_iff.mp hq).1
      omega
    rintro _ _ ⟨X2, rfl⟩
    walk_at "ds"
    refine ⟨_, X ++ X2, rfl, ?_⟩
    rw [set_mid, List.append_assoc, List.cons_append]
  · rintro r M1 ⟨b, X, rfl, rfl⟩
    rw [List.length_map, List.take_length]
    refine ⟨by simp only [still_one, still_nil, and_true]; exact get_old hs, ?_⟩
    walk_at "ds"
    exact ⟨X, rfl⟩
  · exact ⟨none, [], rfl, rfl⟩
theorem mod_in (x : Int) {n : Int} (h : 0 < n) : 0 ≤ x % n ∧ x % n < n := ⟨Int.emod_nonneg _ (by omega), Int.emod_lt_of_pos _ h⟩
/-! ### drawn steps, programs -/
theorem tupleG_of {M : Hd} {i : Nat} {ds : List D} (h : M[i]? = some (.lst ds)) : tupleG (.ref i) M = some (.ok (.tup ds) M) := by
  unfold tupleG
  dsimp only
  rw [h]
theorem wp_if2 {t : TF} {f g : SF} {r : Ev} {M : Hd} {Q : Fl × Hd → Prop} {c : Prop} (h : Wp (t r M) fun o => ∃ b, o = .ok b M ∧ (b = true ↔ c)) (hf : c → Wp (f r M) Q) (hg : ¬ c → Wp (g r M) Q) : Wp (sIf t f g r M) Q := by
  obtain ⟨o, e, b, rfl, hb⟩ := h
  unfold sIf
  rw [e, exB_ok]
  cases b with
  | true => exact hf (hb.mp rfl)
  | false => exact hg fun q => nomatch hb.mpr q
def Sp_.isT : Sp_ → Bool
  | .table .. => true
  | _ => false
/-- a drawn program -/
structure PgOk (m n k : Int) (xs : List Sp_) (most : Int) : Prop where
  hm : 2 ≤ m ∧ m ≤ 1000000000
  hn : 1 ≤ n ∧ n ≤ 60
  hk : 0 ≤ k ∧ k ≤ 60
  hl : (xs.length : Int) ≤ most
  hx : ∀ x ∈ xs, SpOk m n k x
  ht : (∃ x ∈ xs, x.isT = true) → Prm m
section
variable {sub : Str → Option Bool} {i : Nat} {suite : Str → SF} {Q : Fl × Hd → Prop} {r : Ev} {M : Hd} {c : Str} {d : D} {body : SF}
end
theorem add_ref {M : Hd} {i j : Nat} {a b : List D} (ha : M[i]? = some (.lst a)) (hb : M[j]? = some (.lst b)) (hl : a.length + b.length ≤ 16777216) : addG (.ref i) (.ref j) M = some (.ok (.ref M.length) (M ++ [.lst (a ++ b)])) := by
  rw [addG_r, ha, hb]
  exact if_pos hl
theorem prime_of_eight {m : Int} (hm : Prm m) (hb : m < 2000000000) (M : Hd) : m_is_prime [.int m] M = some (.ok (.bl true) M) := by
  obtain ⟨o, e, q⟩ := is_prime_ok (n := m) (M := M) hb
  cases o with
  | er c M1 => exact q.elim
  | ok d M1 =>
    obtain ⟨rfl, b, rfl, hb2⟩ := q
    rw [e, hb2.mpr hm]
theorem PgOk.pr {m n k most : Int} {xs : List Sp_} (ok : PgOk m n k xs most) : (∀ x ∈ xs, ∀ t s c f a b, x ≠ .table t s c f a b) ∨ ∀ M, m_is_prime [.int m] M = some (.ok (.bl true) M) := by
  by_cases ht : ∃ x ∈ xs, x.isT = true
  · exact .inr (prime_of_eight (ok.ht ht) (by have := ok.hm; omega))
  · refine .inl fun x hx t s c f a b e => ht ⟨x, hx, ?_⟩
    rw [e]
    rfl
theorem eMeth_go {c m : Str} {mm : List D → Hd → Option (Rs D)} {fa : EF} {g : AF} {r : Ev} {M M1 M2 : Hd} {i : Nat} {fs : List (Str × D)} {ds : List D} (h1 : fa r M = some (.ok (.ref i) M1)) (h2 : M1[i]? = some (.ins c fs)) (h3 : fs.lookup m = none) (h4 : g r M1 = some (.ok ds M2)) : eMeth c m mm fa g r M = mm (.ref i :: ds) M2 := by
  unfold eMeth
  rw [h1, bnd_ok]
  dsimp only
  rw [h2]
  dsimp only
  rw [if_pos ⟨rfl, h3⟩, h4, bnd_ok]
theorem lk_no {s : Str} {m n k p : D} (h1 : (s == "modulus") = false) (h2 : (s == "cells") = false) (h3 : (s == "inputs") = false) (h4 : (s == "steps") = false) : List.lookup s [(("modulus" : Str), m), ("cells", n), ("inputs", k), ("steps", p)] = none := by
  rw [List.lookup_cons, h1]
  dsimp only
  rw [List.lookup_cons, h2]
  dsimp only
  rw [List.lookup_cons, h3]
  dsimp only
  rw [List.lookup_cons, h4]
  rfl
theorem lk_run {m n k p : D} : List.lookup ("run" : Str) [(("modulus" : Str), m), ("cells", n), ("inputs", k), ("steps", p)] = none := lk_no (by decide +kernel) (by decide +kernel) (by decide +kernel) (by decide +kernel)
/-! ### what a step and its inverse do -/
def pF (mem gs : List Int) (fs : List Fc) : Int := fs.foldl (fun a x => a * facV mem gs x) 1
theorem foldl_mul {mem gs : List Int} : ∀ (fs : List Fc) (a : Int), fs.foldl (fun a x => a * facV mem gs x) a = a * pF mem gs fs
  | [], a => by show a = a * 1; omega
  | x :: fs, a => by
    show fs.foldl _ (a * facV mem gs x) = a * fs.foldl _ (1 * facV mem gs x)
    rw [foldl_mul fs, foldl_mul fs (1 * facV mem gs x), Int.one_mul, Int.mul_assoc]
theorem addV_eq {m : Int} {mem gs : List Int} : ∀ (fs : List Fc) (c : Int), addV m mem gs c fs % m = c * pF mem gs fs % m
  | [], c => by show c % m = c * 1 % m; rw [Int.mul_one]
  | x :: fs, c => by
    show addV m mem gs (c * facV mem gs x % m) fs % m = _
    rw [addV_eq fs]
    show _ = c * (fs.foldl (fun a x => a * facV mem gs x) (1 * facV mem gs x)) % m
    rw [foldl_mul, Int.one_mul, ← Int.mul_assoc, Int.mul_emod, Int.emod_emod, ← Int.mul_emod]
theorem cg_set {l : List Int} {t i v : Int} (ht : 0 ≤ t) (hi : 0 ≤ i) (h : i ≠ t) : cg (l.set t.toNat v) i = cg l i := by
  unfold cg
  rw [List.getD_eq_getElem?_getD, List.getD_eq_getElem?_getD, List.getElem?_set_ne (by omega)]
theorem cg_set_self {l : List Int} {t v : Int} (ht : 0 ≤ t ∧ t < l.length) : cg (l.set t.toNat v) t = v := by
  unfold cg
  rw [List.getD_eq_getElem?_getD, List.getElem?_set_self (by omega)]
  rfl
theorem set_cg {l : List Int} {t : Int} (ht : 0 ≤ t ∧ t < l.length) : l.set t.toNat (cg l t) = l := by
  have hl : t.toNat < l.length := by omega
  have : cg l t = l[t.toNat] := by
    unfold cg
    rw [List.getD_eq_getElem?_getD, List.getElem?_eq_getElem hl]
    rfl
  rw [this, List.set_getElem_self]
theorem ran_app {m : Int} {gs mem : List Int} {xs ys : List Sp_} : ran m gs mem (xs ++ ys) = ran m gs (ran m gs mem xs) ys := by
  unfold ran
  rw [List.foldl_append]
theorem ap3 {M A B C : Hd} : M ++ A ++ B ++ C = M ++ (A ++ B ++ C) := by simp only [List.append_assoc]
/-- a program stands at z -/
structure PrgAt (M : Hd) (z s : Nat) (m n k : Int) (xs : List Sp_) : Prop where
  at_ : M[z]? = some (progO m n k s)
  st : M[s]? = some (.lst (xs.map spd))
theorem PrgAt.app {M X : Hd} {z s : Nat} {m n k : Int} {xs : List Sp_} (h : PrgAt M z s m n k xs) : PrgAt (M ++ X) z s m n k xs := ⟨get_old h.at_, get_old h.st⟩
theorem ht_of {m n k : Int} {xs : List Sp_} (h : ∀ x ∈ xs, SpOk m n k x) : (∃ x ∈ xs, x.isT = true) → Prm m := by
  rintro ⟨x, hx, ht⟩
  have := h x hx
  cases x with
  | table t s c f a b => exact this.2.2.2.2.2.1
  | add t c fs => cases ht
  | scale t c => cases ht
  | swap t c => cases ht
theorem PgOk.of {m n k z z' : Int} {xs ys : List Sp_} (h : PgOk m n k xs z) (hl : (ys.length : Int) ≤ z') (hy : ∀ x ∈ ys, SpOk m n k x) : PgOk m n k ys z' := ⟨h.hm, h.hn, h.hk, hl, hy, ht_of hy⟩
theorem PgOk.take {m n k z : Int} {xs : List Sp_} (h : PgOk m n k xs z) (j : Nat) : PgOk m n k (xs.take j) z := h.of (by have := h.hl; rw [List.length_take]; omega) fun x hx => h.hx x (List.mem_of_mem_take hx)
theorem make_ok {m n k z : Int} {xs : List Sp_} {q : Nat} {g : AF} {r : Ev} {M M1 : Hd} (ok : PgOk m n k xs z) (hz : z ≤ 20000) (hg : g r M = some (.ok [.int m, .int n, .int k, .ref q] M1)) (hq : M1[q]? = some (.lst (xs.map spd))) :
    eMake "Program" m_Program___init__ g r M = some (.ok (.ref M1.length) (M1 ++ [progO m n k (M1.length + 1), .lst (xs.map spd)])) := by
  unfold eMake
  rw [hg, bnd_ok]
  have h1 : (M1 ++ [O.ins "Program" []])[M1.length]? = some (.ins "Program" []) := get_here
  have h2 : (M1 ++ [O.ins "Program" []])[q]? = some (.lst (xs.map spd)) := get_old hq
  have hlt := (List.getElem?_eq_some_iff.mp hq).1
  obtain ⟨o, e, hq2⟩ := init_ok ok.hm ok.hn ok.hk (check_steps_ok ok.hm (by have := ok.hl; omega) ok.hx (ok.pr.imp id fun h => h _) h2) h1 h2 (by omega)
  cases o with
  | er c M2 => exact hq2.elim
  | ok d M2 =>
    obtain ⟨rfl, rfl⟩ := hq2
    rw [e]
    dsimp only
    congr 2
    rw [List.append_assoc]
    show (M1 ++ O.ins "Program" [] :: [O.lst (xs.map spd)]).set M1.length _ = _
    rw [set_here, List.length_append]
    rfl
theorem make_at {m n k : Int} {xs : List Sp_} {M1 : Hd} : PrgAt (M1 ++ [progO m n k (M1.length + 1), .lst (xs.map spd)]) M1.length (M1.length + 1) m n k xs := by
  refine ⟨get_here, ?_⟩
  have := get_here (M := M1 ++ [progO m n k (M1.length + 1)]) (o := O.lst (xs.map spd)) (Z := [])
  rw [List.append_assoc, List.length_append] at this
  exact this
theorem revG_of {M : Hd} {i : Nat} {ds : List D} (h : M[i]? = some (.lst ds)) : revG (.ref i) M = some (.ok (.ref M.length) (M ++ [.lst ds.reverse])) := by
  unfold revG
  dsimp only
  rw [h]
theorem plen_ok {m n k z : Int} {xs : List Sp_} {i s : Nat} {M : Hd} (ok : PgOk m n k xs z) (hz : z ≤ 20000) (h : PrgAt M i s m n k xs) : lenO "Program" m_Program___len__ (.ref i) M = some (.ok (.int xs.length) M) := by
  have e : m_Program___len__ [.ref i] M = some (.ok (.int xs.length) M) := by
    refine wp_eq ?_
    refine wp_mir rfl ?_
    unfold g_Program___len__
    walk_at "ds"
    rw [(fldP h.at_).2.2.2]
    walk_at "ds"
    rw [h.st]
    walk_at "ds"
    rw [List.length_map]
  have hat := h.at_
  unfold progO at hat
  unfold lenO
  dsimp only
  rw [hat]
  dsimp only
  rw [if_pos rfl, e, bnd_ok]
  dsimp only
  rw [if_pos]
  have := ok.hl
  omega
/-! ### sources -/
inductive Nd where
  | const (c : Int) | inp (i : Int) | sum (i j : Int) | prod (i j : Int) | scaled (c i : Int) | choose (i j l : Int)
def nD : Nd → D
  | .const c => .tup [.str "const", .int c]
  | .inp i => .tup [.str "input", .int i]
  | .sum i j => .tup [.str "sum", .int i, .int j]
  | .prod i j => .tup [.str "product", .int i, .int j]
  | .scaled c i => .tup [.str "scaled", .int c, .int i]
  | .choose i j l => .tup [.str "choose", .int i, .int j, .int l]
def NOk (a : Int) : Nd → Prop
  | .const c => 0 ≤ c ∧ c < 1000000000
  | .inp i => 0 ≤ i ∧ i < 60
  | .sum i j => (0 ≤ i ∧ i < a) ∧ (0 ≤ j ∧ j < a)
  | .prod i j => (0 ≤ i ∧ i < a) ∧ (0 ≤ j ∧ j < a)
  | .scaled c i => (0 ≤ c ∧ c < 1000000000) ∧ (0 ≤ i ∧ i < a)
  | .choose i j l => (0 ≤ i ∧ i < a) ∧ (0 ≤ j ∧ j < a) ∧ (0 ≤ l ∧ l < a)
/-- nodes that refer to those before them -/
def NsOk (s : List Nd) : Prop := ∀ (i : Nat) n, s[i]? = some n → NOk i n
theorem NsOk.nil : NsOk [] := fun i n h => by simp at h
theorem NsOk.add {s : List Nd} (h : NsOk s) {n : Nd} (k : NOk s.length n) : NsOk (s ++ [n]) := fun i m e => by
  by_cases hi : i < s.length
  · rw [List.getElem?_append_left hi] at e
    exact h i m e
  · rw [List.getElem?_append_right (by omega)] at e
    by_cases h0 : i - s.length = 0
    · rw [h0] at e
      cases e
      have : i = s.length := by omega
      subst this
      exact k
    · rw [List.getElem?_eq_none (by simp; omega)] at e
      cases e
abbrev LEN : List (Str × Int) := [("const", 2), ("input", 2), ("sum", 3), ("product", 3), ("scaled", 3), ("choose", 4)]
theorem lk_const : LEN.lookup ("const" : Str) = some 2 := by decide +kernel
theorem lk_input : LEN.lookup ("input" : Str) = some 2 := by decide +kernel
theorem lk_sum : LEN.lookup ("sum" : Str) = some 3 := by decide +kernel
theorem lk_product : LEN.lookup ("product" : Str) = some 3 := by decide +kernel
theorem lk_scaled : LEN.lookup ("scaled" : Str) = some 3 := by decide +kernel
theorem lk_choose : LEN.lookup ("choose" : Str) = some 4 := by decide +kernel
theorem is_node_yes {n : Nd} {a : Int} {M : Hd} (h : NOk a n) : Wp (m_is_node [nD n, .int a] M) (okQ fun d M1 => M1 = M ∧ d = .bl true) := by
  refine wp_mir rfl ?_
  unfold g_is_node
  have gc : ∀ {kvs : List (Str × Int)} {ds : List D} {x : Str} {i : Int}, kvs.lookup x = some i → getC kvs (eOp ixG (eVar 0) (eC (.int 0))) [some (.tup (.str x :: ds)), some (.int a), none] M = some (.ok (.int i) M) := fun {kvs ds x i} e => by
    refine getC_str ?_ e
    simp only [eOp, eVar, eC, List.getElem?_cons_zero, bnd_ok, ixG_tup, atI_c0, pr_some]
  cases n with
  | const c =>
    simp only [NOk] at h
    unfold nD
    walk_at "sx"
    rw [gc lk_const]
    walk_at "sx"
    rw [is_number_yes h]
    walk_at "sx"
  | inp c =>
    simp only [NOk] at h
    unfold nD
    walk_at "sx"
    rw [gc lk_input]
    walk_at "sx"
    rw [is_number_yes h]
    walk_at "sx"
  | scaled c i =>
    simp only [NOk] at h
    unfold nD
    walk_at "sx"
    rw [gc lk_scaled]
    walk_at "sx"
    rw [is_number_yes h.1]
    walk_at "sx"
    rw [is_number_yes h.2]
    walk_at "sx"
  | sum i j =>
    simp only [NOk] at h
    unfold nD
    walk_at "sx"
    rw [gc lk_sum]
    walk_at "sx"
    unfold sliceD
    dsimp only
    rw [cut_1]
    walk_at "sx"
    simp only [forL, still_nil, if_true, Tg.put]
    walk_at "sx"
    rw [is_number_yes h.1]
    walk_at "sx"
    rw [is_number_yes h.2]
    walk_at "sx"
  | prod i j =>
    simp only [NOk] at h
    unfold nD
    walk_at "sx"
    rw [gc lk_product]
    walk_at "sx"
    unfold sliceD
    dsimp only
    rw [cut_1]
    walk_at "sx"
    simp only [forL, still_nil, if_true, Tg.put]
    walk_at "sx"
    rw [is_number_yes h.1]
    walk_at "sx"
    rw [is_number_yes h.2]
    walk_at "sx"
  | choose i j l =>
    simp only [NOk] at h
    unfold nD
    walk_at "sx"
    rw [gc lk_choose]
    walk_at "sx"
    unfold sliceD
    dsimp only
    rw [cut_1]
    walk_at "sx"
    simp only [forL, still_nil, if_true, Tg.put]
    walk_at "sx"
    rw [is_number_yes h.1]
    walk_at "sx"
    rw [is_number_yes h.2.1]
    walk_at "sx"
    rw [is_number_yes h.2.2]
    walk_at "sx"
theorem check_source_ok {s : List Nd} {M : Hd} (h0 : 1 ≤ s.length) (h1 : s.length ≤ 200) (h : NsOk s) : Wp (m_check_source [.tup (s.map nD)] M) (okQ fun _ M1 => M1 = M) := by
  refine wp_mir rfl ?_
  unfold g_check_source
  walk_at "ds"
  refine Wp.imp (Q := fun o => o = (Fl.nx [some (.tup (s.map nD)), none, none], M)) ?_ ?_
  · walk_at "di"
    rw [List.length_map, if_pos (by omega)]
    walk_at "di"
    rw [if_neg (by simp; omega)]
    trivial
  rintro _ rfl
  unfold enumI
  walk_at "ds"
  unfold sqD
  walk_at "ds"
  refine wp_forL (fun i r M1 => ∃ a b, r = [some (.tup (s.map nD)), a, b] ∧ M1 = M) ?_ ?_ ?_
  · rintro i d r M1 hd ⟨a, b, rfl, rfl⟩
    obtain ⟨x, hx, rfl⟩ := numb_get hd
    rw [List.getElem?_map] at hx
    obtain ⟨n, hn, rfl⟩ := Option.map_eq_some_iff.mp hx
    refine ⟨by simp, _, rfl, ?_⟩
    walk_at "di"
    refine (is_node_yes (h i n hn)).ok ?_
    rintro _ _ ⟨rfl, rfl⟩
    walk_at "di"
    exact ⟨_, _, rfl⟩
  · rintro r M1 ⟨a, b, rfl, rfl⟩
    refine ⟨by simp, ?_⟩
    walk_at "ds"
  · exact ⟨none, none, rfl, rfl⟩
def price (cs : List Int) : Nd → Int
  | .const _ => 1
  | .inp _ => 1
  | .sum i j => cg cs i + cg cs j
  | .prod i j => 2 * (cg cs i + cg cs j)
  | .scaled _ i => cg cs i
  | .choose i j l => cg cs l + 2 * (cg cs i + cg cs j + cg cs l)
def costs (s : List Nd) : List Int := runF price s
theorem costs_app {s : List Nd} {n : Nd} : costs (s ++ [n]) = costs s ++ [price (costs s) n] := runF_app
theorem costs_take {s : List Nd} {i : Nat} {n : Nd} (h : s[i]? = some n) : costs (s.take (i + 1)) = costs (s.take i) ++ [price (costs (s.take i)) n] := runF_take h
theorem costs_len_take (s : List Nd) (i : Nat) (h : i ≤ s.length) : (costs (s.take i)).length = i := runF_len_take s i h
theorem costs_len (s : List Nd) : (costs s).length = s.length := runF_len s
theorem costs_last {s : List Nd} (h : 1 ≤ s.length) : ∃ cs p, costs s = cs ++ [p] := runF_last h
theorem cost_ok {s : List Nd} {M : Hd} {cs : List Int} {p : Int} (h1 : s.length ≤ 200) (h : NsOk s) (hc : costs s = cs ++ [p]) : Wp (m_cost [.tup (s.map nD)] M) (okQ fun d M1 => d = .int p ∧ ∃ X, M1 = M ++ X) := by
  have h0 : 1 ≤ s.length := by rw [← costs_len, hc]; simp
  refine wp_mir rfl ?_
  unfold g_cost
  walk_at "ds"
  refine (check_source_ok h0 h1 h).ok ?_
  rintro _ M2 hM
  obtain rfl := hM.symm
  walk_at "ds"
  refine wp_forL (fun i r M1 => ∃ a b, r = [some (.tup (s.map nD)), some (.ref M.length), a, b] ∧ M1 = M ++ [.lst ((costs (s.take i)).map D.int)]) ?_ ?_ ?_
  · rintro i d r M1 hd ⟨a, b, rfl, rfl⟩
    rw [List.getElem?_map] at hd
    obtain ⟨n, hn, rfl⟩ := Option.map_eq_some_iff.mp hd
    have hi : i < s.length := (List.getElem?_eq_some_iff.mp hn).1
    have ok := h i n hn
    have hl := costs_len_take s i (by omega)
    rw [costs_take hn]
    generalize costs (s.take i) = cs at hl ⊢
    have e0 : (M ++ [O.lst (cs.map D.int)])[M.length]? = some (.lst (cs.map D.int)) := List.getElem?_concat_length
    refine ⟨by simp, _, rfl, ?_⟩
    rw [List.map_append, List.map_singleton]
    have hlt : (cs.map D.int).length < 16777216 := by rw [List.length_map]; omega
    cases n with
    | const c =>
      unfold nD
      walk_at "sx"
      rw [if_pos hlt]
      walk_at "sx"
      exact ⟨_, _, rfl, rfl⟩
    | inp c =>
      unfold nD
      walk_at "sx"
      rw [if_pos hlt]
      walk_at "sx"
      exact ⟨_, _, rfl, rfl⟩
    | scaled c j =>
      simp only [NOk] at ok
      unfold nD
      walk_at "sx"
      rw [atI_cs (by omega)]
      walk_at "sx"
      rw [if_pos hlt]
      walk_at "sx"
      exact ⟨_, _, rfl, rfl⟩
    | sum j k =>
      simp only [NOk] at ok
      unfold nD
      walk_at "sx"
      rw [atI_cs (by omega)]
      walk_at "sx"
      rw [atI_cs (by omega)]
      walk_at "sx"
      rw [if_pos hlt]
      walk_at "sx"
      exact ⟨_, _, rfl, rfl⟩
    | prod j k =>
      simp only [NOk] at ok
      unfold nD
      walk_at "sx"
      rw [atI_cs (by omega)]
      walk_at "sx"
      rw [atI_cs (by omega)]
      walk_at "sx"
      rw [if_pos hlt]
      walk_at "sx"
      exact ⟨_, _, rfl, rfl⟩
    | choose j k l =>
      simp only [NOk] at ok
      unfold nD
      walk_at "sx"
      rw [atI_cs (by omega)]
      walk_at "sx"
      rw [atI_cs (by omega)]
      walk_at "sx"
      rw [atI_cs (by omega)]
      walk_at "sx"
      rw [if_pos hlt]
      walk_at "sx"
      exact ⟨_, _, rfl, rfl⟩
  · rintro r M1 ⟨a, b, rfl, rfl⟩
    rw [List.length_map, List.take_length, hc, List.map_append, List.map_singleton]
    refine ⟨by simp, ?_⟩
    walk_at "ds"
    rw [L2.atI_last]
    walk_at "ds"
    exact ⟨_, rfl⟩
  · exact ⟨none, none, rfl, rfl⟩
/-! ### drawn sources -/
theorem get_mid2 {A B : Hd} {a b : O} : (A ++ a :: b :: B)[A.length + 1]? = some b := by simp
theorem set_midS {A B : Hd} {a b c : O} : (A ++ a :: b :: B).set (A.length + 1) c = A ++ a :: c :: B := by simp
/-! ### how many inputs a source needs -/
def stepN (a : Int) : Nd → Int
  | .inp i => if a < i + 1 then i + 1 else a
  | _ => a
def need (s : List Nd) : Int := s.foldl stepN 0
theorem need_take {s : List Nd} {i : Nat} {n : Nd} (h : s[i]? = some n) : need (s.take (i + 1)) = stepN (need (s.take i)) n := by
  unfold need
  rw [List.take_succ, h, List.foldl_append]
  rfl
theorem stepN_up {a : Int} {n : Nd} : a ≤ stepN a n := by
  cases n with
  | inp i => unfold stepN; dsimp only; split <;> omega
  | _ => exact Int.le_refl _
theorem fold_up : ∀ (s : List Nd) (a : Int), a ≤ s.foldl stepN a
  | [], a => Int.le_refl _
  | n :: s, a => Int.le_trans stepN_up (fold_up s _)
theorem need_all : ∀ (s : List Nd) (a i : Int), Nd.inp i ∈ s → i < s.foldl stepN a
  | [], a, i, h => nomatch h
  | n :: s, a, i, h => by
    rcases List.mem_cons.mp h with rfl | h
    · refine Int.lt_of_lt_of_le ?_ (fold_up s _)
      unfold stepN
      dsimp only
      split <;> omega
    · exact need_all s _ i h
theorem fold_le : ∀ (s : List Nd) (a : Int), a ≤ 60 → (∀ i, Nd.inp i ∈ s → i < 60) → s.foldl stepN a ≤ 60
  | [], a, h, _ => h
  | n :: s, a, h, hh => by
    refine fold_le s _ ?_ fun i hi => hh i (List.mem_cons_of_mem _ hi)
    cases n with
    | inp i =>
      have := hh i List.mem_cons_self
      unfold stepN
      dsimp only
      split <;> omega
    | _ => exact h
theorem NsOk.inp {s : List Nd} (h : NsOk s) {i : Int} (hi : Nd.inp i ∈ s) : 0 ≤ i ∧ i < 60 := by
  obtain ⟨k, hk⟩ := List.getElem?_of_mem hi
  exact h k _ hk
theorem need_60 {s : List Nd} (h : NsOk s) : 0 ≤ need s ∧ need s ≤ 60 := ⟨fold_up s 0, fold_le s 0 (by decide) fun i hi => (h.inp hi).2⟩
theorem need_lt {s : List Nd} {i : Int} (h : Nd.inp i ∈ s) : i < need s := need_all s 0 i h
theorem needs_go {s : List Nd} {M : Hd} {Q : Fl × Hd → Prop} (hq : Q (Fl.rt (.int (need s)), M)) : Wp (sSeq (sAsg 1 (eC (.int 0))) (sSeq (sFor (seqI (eVar 0)) (.nm 2) (sIf (tVal (eOp eqG (eOp ixG (eVar 2) (eC (.int 0))) (eC (.str "input")))) (sAsg 1 (eCB max2 (aCons (eVar 1) (aCons (eOp addG (eOp ixG (eVar 2) (eC (.int 1))) (eC (.int 1))) aNil)))) sNil)) (sRet (eVar 1))) [some (.tup (s.map nD)), none, none] M) Q := by
  walk_at "ds"
  refine wp_forL (fun i r M1 => ∃ (b : Option D), r = [some (.tup (s.map nD)), some (.int (need (s.take i))), b] ∧ M1 = M) ?_ ?_ ?_
  · rintro i d r M1 hd ⟨b, rfl, rfl⟩
    rw [List.getElem?_map] at hd
    obtain ⟨n, hn, rfl⟩ := Option.map_eq_some_iff.mp hd
    refine ⟨by simp, _, rfl, ?_⟩
    rw [need_take hn]
    generalize need (s.take i) = a
    cases n with
    | inp c =>
      unfold nD
      walk_at "sx"
      exact ⟨_, rfl⟩
    | const c => unfold nD; walk_at "sx"; exact ⟨_, rfl⟩
    | scaled c j => unfold nD; walk_at "sx"; exact ⟨_, rfl⟩
    | sum j k => unfold nD; walk_at "sx"; exact ⟨_, rfl⟩
    | prod j k => unfold nD; walk_at "sx"; exact ⟨_, rfl⟩
    | choose j k l => unfold nD; walk_at "sx"; exact ⟨_, rfl⟩
  · rintro r M1 ⟨b, rfl, rfl⟩
    rw [List.length_map, List.take_length]
    refine ⟨by simp, ?_⟩
    walk_at "ds"
    exact hq
  · exact ⟨none, rfl, rfl⟩
theorem needs_eq {s : List Nd} {M : Hd} (h0 : 1 ≤ s.length) (h1 : s.length ≤ 200) (h : NsOk s) : m_needs [.tup (s.map nD)] M = some (.ok (.int (need s)) M) := by
  refine wp_eq ?_
  refine wp_mir rfl ?_
  unfold g_needs
  have hst : startD N_needs.length [.tup (s.map nD)] = [some (.tup (s.map nD)), none, none] := rfl
  rw [hst, wp_seq]
  simp only [sDrop, eCall, aCons, aNil, eVar, List.getElem?_cons_zero, wp_exB, wp_bnd, wp_some]
  refine (check_source_ok h0 h1 h).ok ?_
  rintro _ M2 hM
  obtain rfl := hM.symm
  first | rw [nxQ_nx] | (dsimp only; rw [nxQ_nx]) | skip
  refine needs_go ?_
  walk_at "ds"
/-! ### values -/
def valN (m : Int) (gs vs : List Int) : Nd → Int
  | .const c => c % m
  | .inp i => cg gs i % m
  | .sum i j => (cg vs i + cg vs j) % m
  | .prod i j => (cg vs i * cg vs j) % m
  | .scaled c i => (c * cg vs i) % m
  | .choose i j l => (cg vs l + cg vs i * cg vs j - cg vs i * cg vs l) % m
def vals (m : Int) (gs : List Int) (s : List Nd) : List Int := runF (valN m gs) s
theorem valN_mod {m : Int} {gs vs : List Int} {n : Nd} (hm : 0 < m) : 0 ≤ valN m gs vs n ∧ valN m gs vs n < m := by
  have h : ∀ x : Int, 0 ≤ x % m ∧ x % m < m := fun x => ⟨Int.emod_nonneg _ (by omega), Int.emod_lt_of_pos _ hm⟩
  cases n <;> exact h _
theorem vals_in {m : Int} {gs : List Int} {s : List Nd} (hm : 0 < m) : ∀ i, i ≤ s.length → ∀ v ∈ vals m gs (s.take i), 0 ≤ v ∧ v < m
  | 0, _ => fun v h => by
    rw [List.take_zero] at h
    exact nomatch h
  | i + 1, h => fun v hv => by
    rw [show vals m gs (s.take (i + 1)) = vals m gs (s.take i) ++ [valN m gs (vals m gs (s.take i)) s[i]] from runF_take (List.getElem?_eq_getElem (by omega))] at hv
    rcases List.mem_append.mp hv with hv | hv
    · exact vals_in hm i (by omega) v hv
    · rw [List.mem_singleton] at hv
      subst hv
      exact valN_mod hm
theorem vals_len_take {m : Int} {gs : List Int} (s : List Nd) (i : Nat) (h : i ≤ s.length) : (vals m gs (s.take i)).length = i := runF_len_take s i h
theorem vals_take {m : Int} {gs : List Int} {s : List Nd} {i : Nat} {n : Nd} (h : s[i]? = some n) : vals m gs (s.take (i + 1)) = vals m gs (s.take i) ++ [valN m gs (vals m gs (s.take i)) n] := runF_take h
/-! ### congruences -/
def Cg (m x y : Int) : Prop := ∃ k, x = y + m * k
theorem Cg.rfl' {m x : Int} : Cg m x x := ⟨0, by omega⟩
theorem Cg.of_eq {m x y : Int} (h : x = y) : Cg m x y := h ▸ Cg.rfl'
theorem Cg.symm {m x y : Int} (h : Cg m x y) : Cg m y x := by
  obtain ⟨k, rfl⟩ := h
  exact ⟨-k, by grind⟩
theorem Cg.trans {m x y z : Int} (h : Cg m x y) (g : Cg m y z) : Cg m x z := by
  obtain ⟨k, rfl⟩ := h
  obtain ⟨l, rfl⟩ := g
  exact ⟨k + l, by grind⟩
theorem Cg.add {m x y a b : Int} (h : Cg m x y) (g : Cg m a b) : Cg m (x + a) (y + b) := by
  obtain ⟨k, rfl⟩ := h
  obtain ⟨l, rfl⟩ := g
  exact ⟨k + l, by grind⟩
theorem Cg.sub {m x y a b : Int} (h : Cg m x y) (g : Cg m a b) : Cg m (x - a) (y - b) := by
  obtain ⟨k, rfl⟩ := h
  obtain ⟨l, rfl⟩ := g
  exact ⟨k - l, by grind⟩
theorem Cg.mul {m x y a b : Int} (h : Cg m x y) (g : Cg m a b) : Cg m (x * a) (y * b) := by
  obtain ⟨k, rfl⟩ := h
  obtain ⟨l, rfl⟩ := g
  exact ⟨k * b + y * l + m * k * l, by grind⟩
theorem Cg.neg {m x y : Int} (h : Cg m x y) : Cg m (-x) (-y) := by
  obtain ⟨k, rfl⟩ := h
  exact ⟨-k, by grind⟩
theorem Cg.mdi {m x y : Int} (h : Cg m x y) : Cg m (x % m) y := by
  refine Cg.trans ⟨-(x / m), ?_⟩ h
  rw [Int.emod_def]
  grind
theorem Cg.eq {m x y : Int} (h : Cg m x y) : x % m = y % m := by
  obtain ⟨k, rfl⟩ := h
  rw [Int.add_mul_emod_self_left]
theorem Cg.val {m x y : Int} (h : Cg m x y) (hy : 0 ≤ y ∧ y < m) : x % m = y := by rw [h.eq, Int.emod_eq_of_lt hy.1 hy.2]
theorem cg_of {m x y a b : Int} (h : Cg m x a) (g : Cg m y b) (e : a = b) : Cg m x y := h.trans ((Cg.of_eq e).trans g.symm)
local macro_rules | `(tactic| walk_at "cg") => `(tactic| repeat (first | with_reducible apply Cg.mdi | with_reducible apply Cg.add | with_reducible apply Cg.sub | with_reducible apply Cg.mul | with_reducible apply Cg.neg | exact Cg.rfl'))
/-! ### adding to a cell -/
def addAt (m : Int) (mem : List Int) (t x : Int) : List Int := mem.set t.toNat ((cg mem t + x) % m)
section
variable {m : Int} {mem : List Int} {t s x y : Int}
theorem addAt_len : (addAt m mem t x).length = mem.length := by unfold addAt; rw [List.length_set]
theorem addAt_in (hm : 0 < m) (h : ∀ v ∈ mem, 0 ≤ v ∧ v < m) : ∀ v ∈ addAt m mem t x, 0 ≤ v ∧ v < m := mem_set h ⟨Int.emod_nonneg _ (by omega), Int.emod_lt_of_pos _ hm⟩
theorem addAt_ne (ht : 0 ≤ t) (hs : 0 ≤ s) (h : s ≠ t) : cg (addAt m mem t x) s = cg mem s := cg_set ht hs h
theorem addAt_self (ht : 0 ≤ t ∧ t < mem.length) : cg (addAt m mem t x) t = (cg mem t + x) % m := cg_set_self ht
theorem addAt_add (ht : 0 ≤ t ∧ t < mem.length) : addAt m (addAt m mem t x) t y = addAt m mem t (x + y) := by
  unfold addAt
  rw [cg_set_self ht, List.set_set, Int.emod_add_emod, Int.add_assoc]
theorem addAt_comm (ht : 0 ≤ t) (hs : 0 ≤ s) (h : s ≠ t) : addAt m (addAt m mem t x) s y = addAt m (addAt m mem s y) t x := by
  unfold addAt
  rw [cg_set ht hs h, cg_set hs ht (Ne.symm h), List.set_comm _ _ (show t.toNat ≠ s.toNat by omega)]
theorem addAt_cg (h : Cg m x y) : addAt m mem t x = addAt m mem t y := by
  unfold addAt
  rw [(Cg.rfl'.add h).eq]
theorem addAt_zero (ht : 0 ≤ t ∧ t < mem.length) (hi : ∀ v ∈ mem, 0 ≤ v ∧ v < m) (hm : 0 < m) (h : Cg m x 0) : addAt m mem t x = mem := by
  rw [addAt_cg h]
  unfold addAt
  have := cg_in hm hi t
  rw [Int.add_zero, Int.emod_eq_of_lt this.1 this.2, set_cg ht]
end
/-! ### tasks -/
structure Tk where
  i : Int
  t : Int
  c : Int
  b : Bool
  s : Int
def Tk.w (k : Tk) : Int := 3 - k.t - k.s
def fcB (b : Bool) (w : Int) : List Fc := if b then [.cell w] else []
def tkD (k : Tk) : D := .tup [.int k.i, .int k.t, .int k.c, .tup ((fcB k.b k.w).map fcD), .int k.s]
def TkOk (m : Int) (N : Nat) (k : Tk) : Prop := (0 ≤ k.i ∧ k.i < N) ∧ (0 ≤ k.c ∧ k.c < m) ∧ (0 ≤ k.t ∧ k.t ≤ 2) ∧ (0 ≤ k.s ∧ k.s ≤ 2) ∧ k.t ≠ k.s
def leafS (m : Int) (k : Tk) : Nd → Sp_
  | .const c => .add k.t (k.c * c % m) (fcB k.b k.w)
  | .inp i => .add k.t k.c (fcB k.b k.w ++ [.inp i])
  | _ => .swap 0 0
def passT (m : Int) (k : Tk) (sg : Int) (fi se : List (Int × Int)) : List Tk := fi.map (fun p => ⟨p.2, k.t, sg * p.1 * k.c % m, true, k.w⟩) ++ se.map (fun p => ⟨p.2, k.s, -sg * p.1 % m, k.b, k.t⟩)
def prodT (m : Int) (k : Tk) (fi se : List (Int × Int)) : List Tk := passT m k (-1) fi se ++ passT m k 1 fi se
def expand (m : Int) (k : Tk) : Nd → List Tk
  | .scaled c i => [⟨i, k.t, k.c * c % m, k.b, k.s⟩]
  | .sum i j => [⟨i, k.t, k.c, k.b, k.s⟩, ⟨j, k.t, k.c, k.b, k.s⟩]
  | .prod i j => prodT m k [(1, i)] [(1, j)]
  | .choose i j l => ⟨l, k.t, k.c, k.b, k.s⟩ :: prodT m k [(1, i)] [(1, j), (-1, l)]
  | _ => []
def Nd.leaf : Nd → Bool
  | .const _ => true
  | .inp _ => true
  | _ => false
def nth (s : List Nd) (i : Int) : Nd := s.getD i.toNat (.const 0)
def stepsF (m : Int) (s : List Nd) : Nat → Tk → List Sp_
  | 0, _ => []
  | f + 1, k => if (nth s k.i).leaf = true then [leafS m k (nth s k.i)] else ((expand m k (nth s k.i)).map (stepsF m s f)).flatten
def visF (m : Int) (s : List Nd) : Nat → Tk → Nat
  | 0, _ => 0
  | f + 1, k => if (nth s k.i).leaf = true then 1 else 1 + ((expand m k (nth s k.i)).map (visF m s f)).sum
theorem nth_get {s : List Nd} {i : Int} (h : 0 ≤ i ∧ i < s.length) : s[i.toNat]? = some (nth s i) := by
  unfold nth
  rw [List.getD_eq_getElem?_getD, List.getElem?_eq_getElem (by omega)]
  rfl
theorem nth_ok {s : List Nd} (hs : NsOk s) {i : Int} (h : 0 ≤ i ∧ i < s.length) : NOk i (nth s i) := by
  have := hs _ _ (nth_get h)
  rwa [Int.toNat_of_nonneg h.1] at this
theorem md (x : Int) {m : Int} (h : 0 < m) : 0 ≤ x % m ∧ x % m < m := ⟨Int.emod_nonneg _ (by omega), Int.emod_lt_of_pos _ h⟩
theorem expand_ok {m : Int} {N : Nat} {k : Tk} {n : Nd} (hm : 0 < m) (h : TkOk m N k) (hn : NOk k.i n) : ∀ k' ∈ expand m k n, TkOk m N k' ∧ k'.i < k.i := by
  obtain ⟨hi, hc, ht, hs, hne⟩ := h
  have hw : (0 ≤ k.w ∧ k.w ≤ 2) ∧ k.w ≠ k.t ∧ k.w ≠ k.s := by unfold Tk.w; omega
  intro k' hk
  cases n with
  | const c => cases hk
  | inp c => cases hk
  | scaled c i =>
    simp only [NOk] at hn
    simp only [expand, List.mem_cons, List.not_mem_nil, or_false] at hk
    subst hk
    exact ⟨⟨⟨hn.2.1, by dsimp only; omega⟩, md _ hm, ht, hs, hne⟩, hn.2.2⟩
  | sum i j =>
    simp only [NOk] at hn
    simp only [expand, List.mem_cons, List.not_mem_nil, or_false] at hk
    rcases hk with rfl | rfl
    · exact ⟨⟨⟨hn.1.1, by dsimp only; omega⟩, hc, ht, hs, hne⟩, hn.1.2⟩
    · exact ⟨⟨⟨hn.2.1, by dsimp only; omega⟩, hc, ht, hs, hne⟩, hn.2.2⟩
  | prod i j =>
    simp only [NOk] at hn
    simp only [expand, prodT, passT, List.map_cons, List.map_nil, List.cons_append, List.nil_append, List.mem_cons, List.not_mem_nil, or_false] at hk
    rcases hk with rfl | rfl | rfl | rfl
    · exact ⟨⟨⟨hn.1.1, by dsimp only; omega⟩, md _ hm, ht, hw.1, Ne.symm hw.2.1⟩, hn.1.2⟩
    · exact ⟨⟨⟨hn.2.1, by dsimp only; omega⟩, md _ hm, hs, ht, Ne.symm hne⟩, hn.2.2⟩
    · exact ⟨⟨⟨hn.1.1, by dsimp only; omega⟩, md _ hm, ht, hw.1, Ne.symm hw.2.1⟩, hn.1.2⟩
    · exact ⟨⟨⟨hn.2.1, by dsimp only; omega⟩, md _ hm, hs, ht, Ne.symm hne⟩, hn.2.2⟩
  | choose i j l =>
    simp only [NOk] at hn
    simp only [expand, prodT, passT, List.map_cons, List.map_nil, List.cons_append, List.nil_append, List.mem_cons, List.not_mem_nil, or_false] at hk
    rcases hk with rfl | rfl | rfl | rfl | rfl | rfl | rfl
    · exact ⟨⟨⟨hn.2.2.1, by dsimp only; omega⟩, hc, ht, hs, hne⟩, hn.2.2.2⟩
    · exact ⟨⟨⟨hn.1.1, by dsimp only; omega⟩, md _ hm, ht, hw.1, Ne.symm hw.2.1⟩, hn.1.2⟩
    · exact ⟨⟨⟨hn.2.1.1, by dsimp only; omega⟩, md _ hm, hs, ht, Ne.symm hne⟩, hn.2.1.2⟩
    · exact ⟨⟨⟨hn.2.2.1, by dsimp only; omega⟩, md _ hm, hs, ht, Ne.symm hne⟩, hn.2.2.2⟩
    · exact ⟨⟨⟨hn.1.1, by dsimp only; omega⟩, md _ hm, ht, hw.1, Ne.symm hw.2.1⟩, hn.1.2⟩
    · exact ⟨⟨⟨hn.2.1.1, by dsimp only; omega⟩, md _ hm, hs, ht, Ne.symm hne⟩, hn.2.1.2⟩
    · exact ⟨⟨⟨hn.2.2.1, by dsimp only; omega⟩, md _ hm, hs, ht, Ne.symm hne⟩, hn.2.2.2⟩
theorem steps_fuel {m : Int} {s : List Nd} (hm : 0 < m) (hs : NsOk s) : ∀ (f g : Nat) (k : Tk), TkOk m s.length k → k.i < f → k.i < g → stepsF m s f k = stepsF m s g k ∧ visF m s f k = visF m s g k
  | 0, _, k, h, h1, _ => absurd h.1.1 (by omega)
  | _ + 1, 0, k, h, _, h1 => absurd h.1.1 (by omega)
  | f + 1, g + 1, k, h, h1, h2 => by
    unfold stepsF visF
    by_cases hl : (nth s k.i).leaf = true
    · rw [if_pos hl, if_pos hl, if_pos hl, if_pos hl]
      exact ⟨rfl, rfl⟩
    · rw [if_neg hl, if_neg hl, if_neg hl, if_neg hl]
      have key : ∀ k' ∈ expand m k (nth s k.i), stepsF m s f k' = stepsF m s g k' ∧ visF m s f k' = visF m s g k' := fun k' hk => by
        obtain ⟨h3, h4⟩ := expand_ok hm h (nth_ok hs h.1) k' hk
        exact steps_fuel hm hs f g k' h3 (by omega) (by omega)
      rw [List.map_congr_left fun k' hk => (key k' hk).1, List.map_congr_left fun k' hk => (key k' hk).2]
      exact ⟨rfl, rfl⟩
def stepsOf (m : Int) (s : List Nd) (k : Tk) : List Sp_ := stepsF m s (k.i.toNat + 1) k
def visOf (m : Int) (s : List Nd) (k : Tk) : Nat := visF m s (k.i.toNat + 1) k
theorem steps_leaf {m : Int} {s : List Nd} {k : Tk} (hl : (nth s k.i).leaf = true) : stepsOf m s k = [leafS m k (nth s k.i)] ∧ visOf m s k = 1 := by
  unfold stepsOf visOf stepsF visF
  rw [if_pos hl, if_pos hl]
  exact ⟨rfl, rfl⟩
theorem steps_node {m : Int} {s : List Nd} {k : Tk} (hm : 0 < m) (hs : NsOk s) (h : TkOk m s.length k) (hl : ¬ (nth s k.i).leaf = true) : stepsOf m s k = ((expand m k (nth s k.i)).map (stepsOf m s)).flatten ∧ visOf m s k = 1 + ((expand m k (nth s k.i)).map (visOf m s)).sum := by
  have key : ∀ k' ∈ expand m k (nth s k.i), stepsF m s k.i.toNat k' = stepsOf m s k' ∧ visF m s k.i.toNat k' = visOf m s k' := fun k' hk => by
    obtain ⟨h3, h4⟩ := expand_ok hm h (nth_ok hs h.1) k' hk
    have := h3.1
    exact steps_fuel hm hs _ _ k' h3 (by omega) (by omega)
  rw [← List.map_congr_left fun k' hk => (key k' hk).1, ← List.map_congr_left fun k' hk => (key k' hk).2]
  show stepsF m s (k.i.toNat + 1) k = _ ∧ visF m s (k.i.toNat + 1) k = _
  unfold stepsF visF
  rw [if_neg hl, if_neg hl]
  exact ⟨rfl, rfl⟩
/-- by the index of a task -/
theorem tk_ind {m : Int} {s : List Nd} {P : Tk → Prop} (hm : 0 < m) (hs : NsOk s) (h1 : ∀ k, TkOk m s.length k → (nth s k.i).leaf = true → P k) (h2 : ∀ k, TkOk m s.length k → ¬ (nth s k.i).leaf = true → (∀ k' ∈ expand m k (nth s k.i), TkOk m s.length k' ∧ P k') → P k) : ∀ k, TkOk m s.length k → P k := by
  have key : ∀ (f : Nat) k, TkOk m s.length k → k.i < f → P k := by
    intro f
    induction f with
    | zero => intro k h hf; exact absurd h.1.1 (by omega)
    | succ f ih =>
      intro k h hf
      by_cases hl : (nth s k.i).leaf = true
      · exact h1 k h hl
      · refine h2 k h hl fun k' hk => ?_
        obtain ⟨h3, h4⟩ := expand_ok hm h (nth_ok hs h.1) k' hk
        exact ⟨h3, ih k' h3 (by omega)⟩
  intro k h
  exact key (k.i.toNat + 1) k h (by have := h.1.1; omega)
/-! ### what steps of tasks cost and do -/
section
variable {α N : Type} {f : List α → N → α}
theorem runF_pre {s : List N} {i j : Nat} (hj : j < i) : ∀ (k : Nat), i + k ≤ s.length → (runF f (s.take (i + k)))[j]? = (runF f (s.take i))[j]?
  | 0, _ => rfl
  | k + 1, h => by
    have hk : i + k < s.length := by omega
    rw [← Nat.add_assoc, runF_take (List.getElem?_eq_getElem hk), List.getElem?_append_left (by rw [runF_len_take s (i + k) (by omega)]; omega)]
    exact runF_pre hj k (by omega)
theorem runF_pre' {s : List N} {i j : Nat} (hj : j < i) (hi : i ≤ s.length) : (runF f (s.take i))[j]? = (runF f s)[j]? := by
  have := runF_pre (f := f) (s := s) hj (s.length - i) (by omega)
  rw [show i + (s.length - i) = s.length by omega, List.take_length] at this
  exact this.symm
theorem runF_get {s : List N} {i : Nat} {n : N} (h : s[i]? = some n) : (runF f s)[i]? = some (f (runF f (s.take i)) n) := by
  have hi := (List.getElem?_eq_some_iff.mp h).1
  rw [← runF_pre' (f := f) (Nat.lt_succ_self i) (by omega), runF_take h]
  have := runF_len_take (f := f) s i (by omega)
  rw [List.getElem?_append_right (by omega), this, Nat.sub_self]
  rfl
end
theorem cg_pre {N : Type} {f : List Int → N → Int} {s : List N} {i : Nat} {j : Int} (hj : 0 ≤ j ∧ j < i) (hi : i ≤ s.length) : cg (runF f (s.take i)) j = cg (runF f s) j := by
  unfold cg
  rw [List.getD_eq_getElem?_getD, List.getD_eq_getElem?_getD, runF_pre' (by omega) hi]
theorem cg_run {N : Type} {f : List Int → N → Int} {s : List N} {i : Int} {n : N} (hi : 0 ≤ i) (h : s[i.toNat]? = some n) : cg (runF f s) i = f (runF f (s.take i.toNat)) n := by
  show (runF f s).getD i.toNat 0 = _
  rw [List.getD_eq_getElem?_getD, runF_get h]
  rfl
theorem cost_at {s : List Nd} (hs : NsOk s) {i : Int} (h : 0 ≤ i ∧ i < s.length) : cg (costs s) i = price (costs s) (nth s i) := by
  have hn := nth_ok hs h
  have e := cg_run (f := price) h.1 (nth_get h)
  have pre : ∀ j : Int, 0 ≤ j ∧ j < i → cg (costs (s.take i.toNat)) j = cg (costs s) j := fun j hj => cg_pre (by omega) (by omega)
  show cg (runF price s) i = _
  rw [e]
  show price (costs (s.take i.toNat)) (nth s i) = _
  cases hnd : nth s i with
  | const c => rfl
  | inp c => rfl
  | scaled c j => rw [hnd] at hn; exact pre _ hn.2
  | sum j k => rw [hnd] at hn; simp only [price, pre _ hn.1, pre _ hn.2]
  | prod j k => rw [hnd] at hn; simp only [price, pre _ hn.1, pre _ hn.2]
  | choose j k l => rw [hnd] at hn; simp only [price, pre _ hn.1, pre _ hn.2.1, pre _ hn.2.2]
theorem val_at {m : Int} {gs : List Int} {s : List Nd} (hs : NsOk s) {i : Int} (h : 0 ≤ i ∧ i < s.length) : cg (vals m gs s) i = valN m gs (vals m gs s) (nth s i) := by
  have hn := nth_ok hs h
  have e := cg_run (f := valN m gs) h.1 (nth_get h)
  have pre : ∀ j : Int, 0 ≤ j ∧ j < i → cg (vals m gs (s.take i.toNat)) j = cg (vals m gs s) j := fun j hj => cg_pre (by omega) (by omega)
  show cg (runF (valN m gs) s) i = _
  rw [e]
  show valN m gs (vals m gs (s.take i.toNat)) (nth s i) = _
  cases hnd : nth s i with
  | const c => rfl
  | inp c => rfl
  | scaled c j => rw [hnd] at hn; simp only [valN, pre _ hn.2]
  | sum j k => rw [hnd] at hn; simp only [valN, pre _ hn.1, pre _ hn.2]
  | prod j k => rw [hnd] at hn; simp only [valN, pre _ hn.1, pre _ hn.2]
  | choose j k l => rw [hnd] at hn; simp only [valN, pre _ hn.1, pre _ hn.2.1, pre _ hn.2.2]
theorem steps_len {m : Int} {s : List Nd} (hm : 0 < m) (hs : NsOk s) : ∀ k, TkOk m s.length k → ((stepsOf m s k).length : Int) = cg (costs s) k.i := by
  refine tk_ind hm hs ?_ ?_
  · intro k h hl
    rw [(steps_leaf hl).1, cost_at hs h.1]
    cases hnd : nth s k.i with
    | const c => rfl
    | inp c => rfl
    | _ => rw [hnd] at hl; cases hl
  · intro k h hl ih
    rw [(steps_node hm hs h hl).1, cost_at hs h.1]
    cases hnd : nth s k.i with
    | const c => rw [hnd] at hl; exact absurd rfl hl
    | inp c => rw [hnd] at hl; exact absurd rfl hl
    | scaled c i =>
      rw [hnd] at ih
      simp only [expand, List.forall_mem_cons, List.map_cons, List.map_nil, List.flatten_cons, List.flatten_nil, List.append_nil] at ih ⊢
      exact ih.1.2
    | sum i j =>
      rw [hnd] at ih
      simp only [expand, List.forall_mem_cons, List.map_cons, List.map_nil, List.flatten_cons, List.flatten_nil, List.append_nil, List.length_append, price] at ih ⊢
      obtain ⟨⟨_, h1⟩, ⟨_, h2⟩, _⟩ := ih
      omega
    | prod i j =>
      rw [hnd] at ih
      simp only [expand, prodT, passT, List.cons_append, List.nil_append, List.forall_mem_cons, List.map_cons, List.map_nil, List.flatten_cons, List.flatten_nil, List.append_nil, List.length_append, price] at ih ⊢
      obtain ⟨⟨_, h1⟩, ⟨_, h2⟩, ⟨_, h3⟩, ⟨_, h4⟩, _⟩ := ih
      omega
    | choose i j l =>
      rw [hnd] at ih
      simp only [expand, prodT, passT, List.cons_append, List.nil_append, List.forall_mem_cons, List.map_cons, List.map_nil, List.flatten_cons, List.flatten_nil, List.append_nil, List.length_append, price] at ih ⊢
      obtain ⟨⟨_, h1⟩, ⟨_, h2⟩, ⟨_, h3⟩, ⟨_, h4⟩, ⟨_, h5⟩, ⟨_, h6⟩, ⟨_, h7⟩, _⟩ := ih
      omega
theorem steps_each {m : Int} {s : List Nd} (hm : 0 < m) (hs : NsOk s) : ∀ k, TkOk m s.length k → ∀ x ∈ stepsOf m s k, SpOk m 3 (need s) x ∧ ∃ t c fs, x = .add t c fs := by
  refine tk_ind hm hs ?_ ?_
  · intro k h hl x hx
    rw [(steps_leaf hl).1, List.mem_singleton] at hx
    subst hx
    obtain ⟨hi, hc, ht, hsp, hne⟩ := h
    have hw : (0 ≤ k.w ∧ k.w < 3) ∧ k.w ≠ k.t := by unfold Tk.w; omega
    have hf : (fcB k.b k.w).length ≤ 1 ∧ ∀ x ∈ fcB k.b k.w, FcOk k.t 3 (need s) x := by
      unfold fcB
      split
      · exact ⟨Nat.le_refl _, fun x hx => by rw [List.mem_singleton] at hx; subst hx; exact hw⟩
      · exact ⟨Nat.zero_le _, fun x hx => nomatch hx⟩
    cases hnd : nth s k.i with
    | const c => exact ⟨⟨⟨ht.1, by omega⟩, md _ hm, by omega, hf.2⟩, _, _, _, rfl⟩
    | inp c =>
      have hin : Nd.inp c ∈ s := by rw [← hnd]; exact List.mem_of_getElem? (nth_get hi)
      refine ⟨⟨⟨ht.1, by omega⟩, hc, by rw [List.length_append]; simp; omega, fun x hx => ?_⟩, _, _, _, rfl⟩
      rcases List.mem_append.mp hx with hx | hx
      · exact hf.2 x hx
      · rw [List.mem_singleton] at hx
        subst hx
        exact ⟨(hs.inp hin).1, need_lt hin⟩
    | _ => rw [hnd] at hl; cases hl
  · intro k h hl ih x hx
    rw [(steps_node hm hs h hl).1] at hx
    obtain ⟨l, hl', hx⟩ := List.mem_flatten.mp hx
    obtain ⟨k', hk', rfl⟩ := List.mem_map.mp hl'
    exact (ih k' hk').2 x hx
def fvT (k : Tk) (mem : List Int) : Int := if k.b = true then cg mem k.w else 1
theorem addV_cg {m : Int} {mem gs : List Int} {c : Int} {fs : List Fc} : Cg m (addV m mem gs c fs) (c * pF mem gs fs) := by
  have h := addV_eq (m := m) (mem := mem) (gs := gs) fs c
  have h1 : Cg m (addV m mem gs c fs) (addV m mem gs c fs % m) := (Cg.mdi Cg.rfl').symm
  rw [h] at h1
  exact h1.trans (Cg.mdi Cg.rfl')
theorem pF_fcB {mem gs : List Int} {b : Bool} {w : Int} {fs : List Fc} : pF mem gs (fcB b w ++ fs) = (if b = true then cg mem w else 1) * pF mem gs fs := by
  unfold fcB
  cases b with
  | true =>
    simp only [if_true, List.cons_append, List.nil_append]
    show fs.foldl _ (1 * facV mem gs (.cell w)) = _
    rw [foldl_mul, Int.one_mul]
    rfl
  | false =>
    simp only [Bool.false_eq_true, if_false, List.nil_append]
    rw [Int.one_mul]
theorem fvT_true {i t c s : Int} {mem : List Int} : fvT ⟨i, t, c, true, s⟩ mem = cg mem (3 - t - s) := rfl
theorem fvT_keep {k k' : Tk} {mem mem' : List Int} (hb : k'.b = k.b) (hw : k'.w = k.w) (h : cg mem' k.w = cg mem k.w) : fvT k' mem' = fvT k mem := by
  unfold fvT
  rw [hb, hw, h]
theorem two_cells {m : Int} {mem : List Int} {t s x1 y1 x2 y2 : Int} (hm : 0 < m) (hl : mem.length = 3) (hi : ∀ v ∈ mem, 0 ≤ v ∧ v < m) (ht : 0 ≤ t ∧ t ≤ 2) (hs : 0 ≤ s ∧ s ≤ 2) (hne : t ≠ s) (hy : Cg m (y1 + y2) 0) :
    addAt m (addAt m (addAt m (addAt m mem t x1) s y1) t x2) s y2 = addAt m mem t (x1 + x2) := by
  rw [addAt_comm (mem := addAt m mem t x1) hs.1 ht.1 hne, addAt_add (mem := mem) (by omega), addAt_add (by rw [addAt_len]; omega), addAt_zero (by rw [addAt_len]; omega) (addAt_in hm hi) hm hy]
theorem steps_run {m : Int} {gs : List Int} {s : List Nd} (hm : 2 ≤ m) (hs : NsOk s) : ∀ k, TkOk m s.length k → ∀ mem : List Int, mem.length = 3 → (∀ v ∈ mem, 0 ≤ v ∧ v < m) → ran m gs mem (stepsOf m s k) = addAt m mem k.t (k.c * cg (vals m gs s) k.i * fvT k mem) := by
  have hmp : 0 < m := by omega
  refine tk_ind hmp hs ?_ ?_
  · intro k h hl mem hml hmi
    rw [(steps_leaf hl).1, val_at hs h.1]
    cases hnd : nth s k.i with
    | const c =>
      show addAt m mem k.t (addV m mem gs (k.c * c % m) (fcB k.b k.w)) = _
      refine addAt_cg (addV_cg.trans ?_)
      rw [← List.append_nil (fcB k.b k.w), pF_fcB]
      show Cg m (k.c * c % m * (fvT k mem * 1)) (k.c * (c % m) * fvT k mem)
      generalize fvT k mem = F
      apply cg_of
      · walk_at "cg"
      · walk_at "cg"
      · grind
    | inp i =>
      show addAt m mem k.t (addV m mem gs k.c (fcB k.b k.w ++ [.inp i])) = _
      refine addAt_cg (addV_cg.trans ?_)
      rw [pF_fcB]
      show Cg m (k.c * (fvT k mem * (1 * cg gs i))) (k.c * (cg gs i % m) * fvT k mem)
      generalize fvT k mem = F
      apply cg_of
      · walk_at "cg"
      · walk_at "cg"
      · grind
    | _ => rw [hnd] at hl; cases hl
  · intro k h hl ih mem hml hmi
    rw [(steps_node hmp hs h hl).1, val_at hs h.1]
    obtain ⟨hi, hc, ht, hsp, hne⟩ := h
    have hw : (0 ≤ k.w ∧ k.w ≤ 2) ∧ k.w ≠ k.t ∧ k.w ≠ k.s := by unfold Tk.w; omega
    have e3 : 3 - k.t - k.w = k.s := by unfold Tk.w; omega
    have e4 : 3 - k.s - k.t = k.w := by unfold Tk.w; omega
    cases hnd : nth s k.i with
    | const c => rw [hnd] at hl; exact absurd rfl hl
    | inp c => rw [hnd] at hl; exact absurd rfl hl
    | scaled c i =>
      rw [hnd] at ih
      simp only [expand, List.forall_mem_cons, List.map_cons, List.map_nil, List.flatten_cons, List.flatten_nil, List.append_nil] at ih ⊢
      rw [ih.1.2 mem hml hmi]
      show addAt m mem k.t (k.c * c % m * cg (vals m gs s) i * fvT k mem) = addAt m mem k.t (k.c * (c * cg (vals m gs s) i % m) * fvT k mem)
      generalize fvT k mem = F
      generalize cg (vals m gs s) i = V
      refine addAt_cg ?_
      apply cg_of
      · walk_at "cg"
      · walk_at "cg"
      · grind
    | sum i j =>
      rw [hnd] at ih
      simp only [expand, List.forall_mem_cons, List.map_cons, List.map_nil, List.flatten_cons, List.flatten_nil, List.append_nil] at ih ⊢
      obtain ⟨⟨_, h1⟩, ⟨_, h2⟩, _⟩ := ih
      rw [ran_app, h1 mem hml hmi, h2 _ (by rw [addAt_len]; exact hml) (addAt_in hmp hmi)]
      rw [fvT_keep (k := k) (k' := ⟨j, k.t, k.c, k.b, k.s⟩) (mem := mem) rfl rfl (addAt_ne ht.1 hw.1.1 hw.2.1)]
      rw [addAt_add (by omega)]
      show addAt m mem k.t (k.c * cg (vals m gs s) i * fvT k mem + k.c * cg (vals m gs s) j * fvT k mem) = addAt m mem k.t (k.c * ((cg (vals m gs s) i + cg (vals m gs s) j) % m) * fvT k mem)
      generalize fvT k mem = F
      generalize cg (vals m gs s) i = V
      generalize cg (vals m gs s) j = U
      refine addAt_cg ?_
      apply cg_of
      · walk_at "cg"
      · walk_at "cg"
      · grind
    | prod i j =>
      rw [hnd] at ih
      simp only [expand, prodT, passT, List.cons_append, List.nil_append, List.forall_mem_cons, List.map_cons, List.map_nil, List.flatten_cons, List.flatten_nil, List.append_nil] at ih ⊢
      obtain ⟨⟨_, h1⟩, ⟨_, h2⟩, ⟨_, h3⟩, ⟨_, h4⟩, _⟩ := ih
      simp only [ran_app]
      rw [h1 mem hml hmi]
      rw [fvT_true, e3]
      generalize hV : cg (vals m gs s) i = V
      generalize hU : cg (vals m gs s) j = U
      generalize hx1 : -1 * 1 * k.c % m * V * cg mem k.s = x1
      have l1 : (addAt m mem k.t x1).length = 3 := by rw [addAt_len]; exact hml
      have i1 := addAt_in (t := k.t) (x := x1) hmp hmi
      rw [h2 _ l1 i1]
      rw [hU, fvT_keep (k := k) (k' := ⟨j, k.s, - -1 * 1 % m, k.b, k.t⟩) (mem := mem) rfl e4 (addAt_ne ht.1 hw.1.1 hw.2.1)]
      generalize hF : fvT k mem = F
      generalize hy1 : - -1 * 1 % m * U * F = y1
      have l2 : (addAt m (addAt m mem k.t x1) k.s y1).length = 3 := by rw [addAt_len]; exact l1
      have i2 := addAt_in (t := k.s) (x := y1) hmp i1
      rw [h3 _ l2 i2]
      rw [hV, fvT_true, e3, addAt_self (by omega), addAt_ne ht.1 hsp.1 (Ne.symm hne)]
      generalize hx2 : 1 * 1 * k.c % m * V * ((cg mem k.s + y1) % m) = x2
      have l3 : (addAt m (addAt m (addAt m mem k.t x1) k.s y1) k.t x2).length = 3 := by rw [addAt_len]; exact l2
      have i3 := addAt_in (t := k.t) (x := x2) hmp i2
      rw [h4 _ l3 i3]
      rw [hU, fvT_keep (k := k) (k' := ⟨j, k.s, -1 * 1 % m, k.b, k.t⟩) (mem := mem) rfl e4 (by rw [addAt_ne ht.1 hw.1.1 hw.2.1, addAt_ne hsp.1 hw.1.1 hw.2.2, addAt_ne ht.1 hw.1.1 hw.2.1]), hF]
      rw [two_cells hmp hml hmi ht hsp hne]
      · show addAt m mem k.t (x1 + x2) = addAt m mem k.t (k.c * (cg (vals m gs s) i * cg (vals m gs s) j % m) * F)
        rw [hV, hU]
        refine addAt_cg ?_
        subst hx1 hx2 hy1
        generalize cg mem k.s = S
        clear hF
        apply cg_of
        · walk_at "cg"
        · walk_at "cg"
        · grind
      · subst hy1
        apply cg_of
        · walk_at "cg"
        · walk_at "cg"
        · grind
    | choose i j l =>
      rw [hnd] at ih
      simp only [expand, prodT, passT, List.cons_append, List.nil_append, List.forall_mem_cons, List.map_cons, List.map_nil, List.flatten_cons, List.flatten_nil, List.append_nil] at ih ⊢
      obtain ⟨⟨_, h0⟩, ⟨_, h1⟩, ⟨_, h2⟩, ⟨_, h2'⟩, ⟨_, h3⟩, ⟨_, h4⟩, ⟨_, h4'⟩, _⟩ := ih
      simp only [ran_app]
      have fk : ∀ {i c : Int} {M : List Int}, cg M k.w = cg mem k.w → fvT ⟨i, k.s, c, k.b, k.t⟩ M = fvT k mem := fun h => fvT_keep rfl e4 h
      generalize hV : cg (vals m gs s) i = V
      generalize hU : cg (vals m gs s) j = U
      generalize hT : cg (vals m gs s) l = T
      generalize hF : fvT k mem = F at fk
      rw [h0 mem hml hmi, show fvT ⟨l, k.t, k.c, k.b, k.s⟩ mem = F from hF, hT]
      generalize hx0 : k.c * T * F = x0
      have l0 : (addAt m mem k.t x0).length = 3 := by rw [addAt_len]; exact hml
      have i0 := addAt_in (t := k.t) (x := x0) hmp hmi
      rw [h1 _ l0 i0, fvT_true, e3, addAt_ne ht.1 hsp.1 (Ne.symm hne), hV, addAt_add (mem := mem) (by omega)]
      generalize hx1 : -1 * 1 * k.c % m * V * cg mem k.s = x1
      have l1 : (addAt m mem k.t (x0 + x1)).length = 3 := by rw [addAt_len]; exact hml
      have i1 := addAt_in (t := k.t) (x := x0 + x1) hmp hmi
      rw [h2 _ l1 i1, hU, fk (addAt_ne ht.1 hw.1.1 hw.2.1)]
      generalize hy1 : - -1 * 1 % m * U * F = y1
      have l2 : (addAt m (addAt m mem k.t (x0 + x1)) k.s y1).length = 3 := by rw [addAt_len]; exact l1
      have i2 := addAt_in (t := k.s) (x := y1) hmp i1
      rw [h2' _ l2 i2, hT, fk (by rw [addAt_ne hsp.1 hw.1.1 hw.2.2, addAt_ne ht.1 hw.1.1 hw.2.1]), addAt_add (mem := addAt m mem k.t (x0 + x1)) (by omega)]
      generalize hz1 : - -1 * -1 % m * T * F = z1
      have l2 : (addAt m (addAt m mem k.t (x0 + x1)) k.s (y1 + z1)).length = 3 := by rw [addAt_len]; exact l1
      have i2 := addAt_in (t := k.s) (x := y1 + z1) hmp i1
      rw [h3 _ l2 i2, fvT_true, e3, addAt_self (by omega), addAt_ne ht.1 hsp.1 (Ne.symm hne), hV]
      generalize hx2 : 1 * 1 * k.c % m * V * ((cg mem k.s + (y1 + z1)) % m) = x2
      have l3 : (addAt m (addAt m (addAt m mem k.t (x0 + x1)) k.s (y1 + z1)) k.t x2).length = 3 := by rw [addAt_len]; exact l2
      have i3 := addAt_in (t := k.t) (x := x2) hmp i2
      have k3 : cg (addAt m (addAt m (addAt m mem k.t (x0 + x1)) k.s (y1 + z1)) k.t x2) k.w = cg mem k.w := by rw [addAt_ne ht.1 hw.1.1 hw.2.1, addAt_ne hsp.1 hw.1.1 hw.2.2, addAt_ne ht.1 hw.1.1 hw.2.1]
      rw [h4 _ l3 i3, hU, fk k3]
      generalize hy2 : -1 * 1 % m * U * F = y2
      have l4 : (addAt m (addAt m (addAt m (addAt m mem k.t (x0 + x1)) k.s (y1 + z1)) k.t x2) k.s y2).length = 3 := by rw [addAt_len]; exact l3
      have i4 := addAt_in (t := k.s) (x := y2) hmp i3
      rw [h4' _ l4 i4, hT, fk (by rw [addAt_ne hsp.1 hw.1.1 hw.2.2, k3]), addAt_add (mem := addAt m (addAt m (addAt m mem k.t (x0 + x1)) k.s (y1 + z1)) k.t x2) (by omega)]
      generalize hz2 : -1 * -1 % m * T * F = z2
      rw [two_cells hmp hml hmi ht hsp hne]
      · show addAt m mem k.t (x0 + x1 + x2) = addAt m mem k.t (k.c * ((cg (vals m gs s) l + cg (vals m gs s) i * cg (vals m gs s) j - cg (vals m gs s) i * cg (vals m gs s) l) % m) * F)
        rw [hV, hU, hT]
        refine addAt_cg ?_
        subst hx0 hx1 hx2 hy1 hz1
        generalize cg mem k.s = S
        clear hF fk
        apply cg_of
        · walk_at "cg"
        · walk_at "cg"
        · grind
      · subst hy1 hy2 hz1 hz2
        apply cg_of
        · walk_at "cg"
        · walk_at "cg"
        · grind
/-! ### compile_source -/
theorem tkD_tup (k : Tk) : tkD k = .tup [.int k.i, .int k.t, .int k.c, .tup ((fcB k.b k.w).map fcD), .int k.s] := rfl
theorem fcB_len (b : Bool) (w : Int) : (fcB b w).length ≤ 1 := by cases b <;> simp [fcB]
theorem leaf_step_ok {m : Int} {N : Nat} {k : Tk} {n : Nd} {M : Hd} (hm : 2 ≤ m ∧ m ≤ 1000000000) (h : TkOk m N k) (hn : NOk k.i n) (hl : n.leaf = true) : m_leaf_step [nD n, tkD k, .int m] M = some (.ok (spd (leafS m k n)) M) := by
  obtain ⟨hi, hc, ht, hsp, hne⟩ := h
  refine wp_eq ?_
  refine wp_mir rfl ?_
  unfold g_leaf_step
  have hf := fcB_len k.b k.w
  cases n with
  | const c =>
    show Wp _ (fnQ fun o => o = Rs.ok (.tup [.str "add", .int k.t, .int (k.c * c % m), .tup ((fcB k.b k.w).map fcD)]) M)
    rw [tkD_tup]
    unfold nD
    generalize (fcB k.b k.w).map fcD = fs
    walk_at "sx"
    rw [mulG_l (by omega)]
    walk_at "sx"
    rw [modG_ok (by omega)]
    walk_at "sx"
  | inp c =>
    show Wp _ (fnQ fun o => o = Rs.ok (.tup [.str "add", .int k.t, .int k.c, .tup ((fcB k.b k.w ++ [Fc.inp c]).map fcD)]) M)
    rw [tkD_tup, List.map_append]
    unfold nD
    show Wp _ (fnQ fun o => o = Rs.ok (.tup [.str "add", .int k.t, .int k.c, .tup ((fcB k.b k.w).map fcD ++ [.tup [.str "input", .int c]])]) M)
    have hf2 : ((fcB k.b k.w).map fcD).length ≤ 1 := by rw [List.length_map]; exact hf
    generalize (fcB k.b k.w).map fcD = fs at hf2 ⊢
    walk_at "sx"
    rw [add_tup (by simp; omega)]
    walk_at "sx"
  | _ => cases hl
def prD (p : Int × Int) : D := .tup [.int p.1, .int p.2]
theorem eLm_append {fo fe : EF} {r : Ev} {M M1 : Hd} {i : Nat} {ds : List D} {y : D} (h1 : fo r M = some (.ok (.ref i) M)) (h2 : M[i]? = some (.lst ds)) (h3 : fe r M = some (.ok y M1)) (h4 : M1[i]? = some (.lst ds)) (hl : ds.length < 16777216) : eLm appendG fo (aCons fe aNil) r M = some (.ok .non (M1.set i (.lst (ds ++ [y])))) := by
  unfold eLm
  rw [h1, bnd_ok]
  dsimp only
  rw [h2]
  simp only [aCons, aNil, h3, bnd_ok]
  rw [h4]
  unfold appendG
  dsimp only
  rw [if_pos hl]
theorem adds_ok {p L : Nat} {Ms : Hd} {l : List (Int × Int)} {a0 a1 a2 a3 a4 a5 a6 a7 a8 a9 a10 a12 a13 : Option D} {x y : Option D} {sl : EF} {F : Int × Int → Tk} {el : EF} {acc : List D} {Q : Fl × Hd → Prop} (hL : L = Ms.length)
    (hs : ∀ r M1, r.take 14 = [a0, a1, a2, a3, a4, a5, a6, a7, a8, a9, a10, some (.ref L), a12, a13] → sl r M1 = some (.ok (.ref p) M1)) (hp : Ms[p]? = some (.lst (l.map prD)))
    (he : ∀ q ∈ l, ∀ M1, el [a0, a1, a2, a3, a4, a5, a6, a7, a8, a9, a10, some (.ref L), a12, a13, some (.int q.1), some (.int q.2)] M1 = some (.ok (tkD (F q)) M1)) (hlen : acc.length + l.length ≤ 1000)
    (hq : ∀ x y, Q (.nx [a0, a1, a2, a3, a4, a5, a6, a7, a8, a9, a10, some (.ref L), a12, a13, x, y], Ms ++ [.lst (acc ++ (l.map F).map tkD)])) :
    Wp (sFor (seqI sl) (.tp [14, 15]) (sDrop (eLm appendG (eVar 11) (aCons el aNil))) [a0, a1, a2, a3, a4, a5, a6, a7, a8, a9, a10, some (.ref L), a12, a13, x, y] (Ms ++ [.lst acc])) Q := by
  subst hL
  unfold sFor
  rw [wp_exB]
  refine wp_of_eq (seq_ref (hs _ _ rfl) (get_old hp)) ?_
  dsimp only
  refine wp_forL (fun i r M1 => ∃ x y, r = [a0, a1, a2, a3, a4, a5, a6, a7, a8, a9, a10, some (.ref Ms.length), a12, a13, x, y] ∧ M1 = Ms ++ [.lst (acc ++ ((l.take i).map F).map tkD)]) ?_ ?_ ?_
  · rintro i d r M1 hd ⟨x, y, rfl, rfl⟩
    have hi := (List.getElem?_eq_some_iff.mp hd).1
    rw [List.length_map] at hi
    rw [List.getElem?_map] at hd
    obtain ⟨q, hql, rfl⟩ := Option.map_eq_some_iff.mp hd
    refine ⟨by simp only [still_one, still_nil, and_true]; exact get_old hp, _, rfl, ?_⟩
    unfold sDrop
    rw [wp_exB]
    have e := eLm_append (fo := eVar 11) (r := [a0, a1, a2, a3, a4, a5, a6, a7, a8, a9, a10, some (.ref Ms.length), a12, a13, some (.int q.1), some (.int q.2)]) rfl get_here (he q (List.mem_of_getElem? hql) (Ms ++ [.lst (acc ++ ((l.take i).map F).map tkD)])) get_here (by rw [List.length_append, List.length_map, List.length_map, List.length_take]; omega)
    refine wp_of_eq e ?_
    dsimp only
    rw [wp_some, lpQ_nx, set_here]
    refine ⟨_, _, rfl, ?_⟩
    rw [List.take_succ, hql]
    simp only [List.map_append, List.append_assoc]
    rfl
  · rintro r M1 ⟨x, y, rfl, rfl⟩
    rw [List.length_map, List.take_length]
    refine ⟨by simp only [still_one, still_nil, and_true]; exact get_old hp, ?_⟩
    exact hq x y
  · exact ⟨x, y, rfl, by rw [List.take_zero]; simp⟩
theorem used_ok {k : Tk} {r : Ev} {M : Hd} (h7 : r[7]? = some (some (.tup ((fcB k.b k.w).map fcD)))) (h5 : r[5]? = some (some (.int k.t))) (h8 : r[8]? = some (some (.int k.s))) : eIf (tTru (eVar 7)) (eOp ixG (eOp ixG (eVar 7) (eC (.int 0))) (eC (.int 1))) (eOp subG (eOp subG (eC (.int 3)) (eVar 5)) (eVar 8)) r M = some (.ok (.int k.w) M) := by
  unfold eIf tTru
  have e7 : eVar 7 r M = some (.ok (.tup ((fcB k.b k.w).map fcD)) M) := by unfold eVar; rw [h7]
  rw [e7]
  cases hb : k.b with
  | true =>
    rw [hb] at e7 h7
    unfold fcB
    simp only [bnd_ok, truD, if_true, List.map_cons, List.map_nil, List.isEmpty_cons, Bool.not_false]
    unfold fcB at e7
    simp only [if_true, List.map_cons, List.map_nil] at e7
    unfold eOp eC
    rw [e7]
    simp only [bnd_ok, ixG_tup, atI_c0, pr_some]
    unfold fcD
    simp only [ixG_tup, atI_c1, pr_some]
  | false =>
    unfold fcB
    simp only [bnd_ok, truD, Bool.false_eq_true, if_false, List.map_nil, List.isEmpty_nil, Bool.not_true]
    unfold eOp eC eVar
    rw [h5]
    simp only [bnd_ok, subG_int]
    rw [h8]
    simp only [bnd_ok, subG_int]
    rfl
theorem product_tasks_ok {m : Int} {N : Nat} {k : Tk} {fi se : List (Int × Int)} {p q : Nat} {M : Hd} (hm : 2 ≤ m ∧ m ≤ 1000000000) (h : TkOk m N k) (hp : M[p]? = some (.lst (fi.map prD))) (hq : M[q]? = some (.lst (se.map prD))) (hf : ∀ x ∈ fi, -1 ≤ x.1 ∧ x.1 ≤ 1) (hs : ∀ x ∈ se, -1 ≤ x.1 ∧ x.1 ≤ 1) (hfl : fi.length ≤ 10) (hsl : se.length ≤ 10) :
    m_product_tasks [.ref p, .ref q, tkD k, .int m] M = some (.ok (.ref M.length) (M ++ [.lst ((prodT m k fi se).map tkD)])) := by
  obtain ⟨hi, hc, ht, hsp, hne⟩ := h
  refine wp_eq ?_
  refine wp_mir rfl ?_
  unfold g_product_tasks
  rw [tkD_tup]
  rw [wp_seq]
  have e1 : sAsgT [4, 5, 6, 7, 8] (eVar 2) (startD N_product_tasks.length [.ref p, .ref q, .tup [.int k.i, .int k.t, .int k.c, .tup ((fcB k.b k.w).map fcD), .int k.s], .int m]) M = some (.nx [some (.ref p), some (.ref q), some (.tup [.int k.i, .int k.t, .int k.c, .tup ((fcB k.b k.w).map fcD), .int k.s]), some (.int m), some (.int k.i), some (.int k.t), some (.int k.c), some (.tup ((fcB k.b k.w).map fcD)), some (.int k.s), none, none, none, none, none, none, none], M) := rfl
  refine wp_of_eq e1 ?_
  rw [nxQ_nx, wp_seq]
  clear e1
  generalize D.tup [.int k.i, .int k.t, .int k.c, .tup ((fcB k.b k.w).map fcD), .int k.s] = T
  unfold sAsg
  rw [wp_exB]
  refine wp_of_eq (used_ok (k := k) rfl rfl rfl) ?_
  walk_at "ds"
  refine wp_forL (fun i r M1 => ∃ a12 a13 a14 a15, r = [some (.ref p), some (.ref q), some T, some (.int m), some (.int k.i), some (.int k.t), some (.int k.c), some (.tup ((fcB k.b k.w).map fcD)), some (.int k.s), some (.int k.w), some (.tup [.tup [.str "cell", .int k.s]]), some (.ref M.length), a12, a13, a14, a15] ∧ M1 = M ++ [.lst ((if i = 0 then [] else if i = 1 then passT m k (-1) fi se else prodT m k fi se).map tkD)]) ?_ ?_ ?_
  · rintro i d r M1 hd ⟨a12, a13, a14, a15, rfl, rfl⟩
    obtain ⟨hi2, rfl⟩ := ints_get hd
    have hi2 : i < 2 := by simpa using hi2
    refine ⟨by simp, _, rfl, ?_⟩
    have go : ∀ (sg : Int) (acc : List Tk) (d12 : Option D) (Q : Fl × Hd → Prop), (-1 ≤ sg ∧ sg ≤ 1) → acc.length ≤ 20 → (∀ x y, Q (.nx [some (.ref p), some (.ref q), some T, some (.int m), some (.int k.i), some (.int k.t), some (.int k.c), some (.tup ((fcB k.b k.w).map fcD)), some (.int k.s), some (.int k.w), some (.tup [.tup [.str "cell", .int k.s]]), some (.ref M.length), d12, some (.int sg), x, y], M ++ [.lst ((acc ++ passT m k sg fi se).map tkD)])) →
        Wp (sSeq (sFor (seqI (eVar 0)) (.tp [14, 15]) (sDrop (eLm appendG (eVar 11) (aCons (eTup (aCons (eVar 15) (aCons (eVar 5) (aCons (eOp modG (eOp mulG (eOp mulG (eVar 13) (eVar 14)) (eVar 6)) (eVar 3)) (aCons (eVar 10) (aCons (eVar 9) aNil)))))) aNil)))) (sFor (seqI (eVar 1)) (.tp [14, 15]) (sDrop (eLm appendG (eVar 11) (aCons (eTup (aCons (eVar 15) (aCons (eVar 8) (aCons (eOp modG (eOp mulG (eUn negG (eVar 13)) (eVar 14)) (eVar 3)) (aCons (eVar 7) (aCons (eVar 5) aNil)))))) aNil)))) [some (.ref p), some (.ref q), some T, some (.int m), some (.int k.i), some (.int k.t), some (.int k.c), some (.tup ((fcB k.b k.w).map fcD)), some (.int k.s), some (.int k.w), some (.tup [.tup [.str "cell", .int k.s]]), some (.ref M.length), d12, some (.int sg), a14, a15] (M ++ [.lst (acc.map tkD)])) Q := by
      intro sg acc d12 Q hsg hal hQ
      rw [wp_seq]
      refine adds_ok (F := fun p => ⟨p.2, k.t, sg * p.1 * k.c % m, true, k.w⟩) rfl ?_ hp ?_ (by rw [List.length_map]; omega) ?_
      · intro r M1 hr
        unfold eVar
        have : r[0]? = (r.take 14)[0]? := by rw [List.getElem?_take_of_lt (by decide)]
        rw [this, hr]
        rfl
      · intro x hx M1
        have hb := hf x hx
        have e1 : -1 ≤ sg * x.1 ∧ sg * x.1 ≤ 1 := by
          obtain ⟨h1, h2⟩ := hsg
          rcases (show sg = -1 ∨ sg = 0 ∨ sg = 1 by omega) with rfl | rfl | rfl <;> omega
        simp only [eTup, aCons, aNil, eVar, eOp, List.getElem?_cons_zero, List.getElem?_cons_succ, bnd_ok, mulG_l (show -(2 ^ 64) < sg ∧ sg < 2 ^ 64 by omega), mulG_l (show -(2 ^ 64) < sg * x.1 ∧ sg * x.1 < 2 ^ 64 by omega), modG_ok (show 0 < m by omega)]
        rw [if_pos (by simp)]
        show _ = some (Rs.ok (D.tup [.int x.2, .int k.t, .int (sg * x.1 * k.c % m), .tup [.tup [.str "cell", .int (3 - k.t - k.w)]], .int k.w]) M1)
        rw [show 3 - k.t - k.w = k.s by unfold Tk.w; omega]
      intro x y
      rw [nxQ_nx, ← List.map_append]
      refine adds_ok (F := fun p => ⟨p.2, k.s, -sg * p.1 % m, k.b, k.t⟩) rfl ?_ hq ?_ (by rw [List.length_map, List.length_append, List.length_map]; omega) ?_
      · intro r M1 hr
        unfold eVar
        have : r[1]? = (r.take 14)[1]? := by rw [List.getElem?_take_of_lt (by decide)]
        rw [this, hr]
        rfl
      · intro x hx M1
        have hb := hs x hx
        simp only [eTup, aCons, aNil, eVar, eOp, eUn, List.getElem?_cons_zero, List.getElem?_cons_succ, bnd_ok, negG_int, mulG_l (show -(2 ^ 64) < -sg ∧ -sg < 2 ^ 64 by omega), modG_ok (show 0 < m by omega)]
        rw [if_pos (by simp)]
        show _ = some (Rs.ok (D.tup [.int x.2, .int k.s, .int (-sg * x.1 % m), .tup ((fcB k.b (3 - k.s - k.t)).map fcD), .int k.t]) M1)
        rw [show 3 - k.s - k.t = k.w by unfold Tk.w; omega]
      intro x y
      rw [← List.map_append, List.append_assoc]
      exact hQ x y
    rcases (show i = 0 ∨ i = 1 by omega) with rfl | rfl
    · rw [wp_seq]
      have e13 : ∀ M1, sAsg 13 (eIf (tVal (eOp eqG (eVar 12) (eC (.int 0)))) (eUn negG (eC (.int 1))) (eC (.int 1))) [some (.ref p), some (.ref q), some T, some (.int m), some (.int k.i), some (.int k.t), some (.int k.c), some (.tup ((fcB k.b k.w).map fcD)), some (.int k.s), some (.int k.w), some (.tup [.tup [.str "cell", .int k.s]]), some (.ref M.length), some (.int 0), a13, a14, a15] M1 = some (.nx [some (.ref p), some (.ref q), some T, some (.int m), some (.int k.i), some (.int k.t), some (.int k.c), some (.tup ((fcB k.b k.w).map fcD)), some (.int k.s), some (.int k.w), some (.tup [.tup [.str "cell", .int k.s]]), some (.ref M.length), some (.int 0), some (.int (-1)), a14, a15], M1) := fun M1 => rfl
      refine wp_of_eq (e13 _) ?_
      rw [nxQ_nx]
      refine go (-1) [] _ _ (by decide) (by decide) ?_
      intro x y
      rw [lpQ_nx]
      exact ⟨_, _, _, _, rfl, rfl⟩
    · rw [wp_seq]
      have e13 : ∀ M1, sAsg 13 (eIf (tVal (eOp eqG (eVar 12) (eC (.int 0)))) (eUn negG (eC (.int 1))) (eC (.int 1))) [some (.ref p), some (.ref q), some T, some (.int m), some (.int k.i), some (.int k.t), some (.int k.c), some (.tup ((fcB k.b k.w).map fcD)), some (.int k.s), some (.int k.w), some (.tup [.tup [.str "cell", .int k.s]]), some (.ref M.length), some (.int 1), a13, a14, a15] M1 = some (.nx [some (.ref p), some (.ref q), some T, some (.int m), some (.int k.i), some (.int k.t), some (.int k.c), some (.tup ((fcB k.b k.w).map fcD)), some (.int k.s), some (.int k.w), some (.tup [.tup [.str "cell", .int k.s]]), some (.ref M.length), some (.int 1), some (.int 1), a14, a15], M1) := fun M1 => rfl
      refine wp_of_eq (e13 _) ?_
      rw [nxQ_nx]
      refine go 1 (passT m k (-1) fi se) _ _ (by decide) (by unfold passT; rw [List.length_append, List.length_map, List.length_map]; omega) ?_
      intro x y
      rw [lpQ_nx]
      exact ⟨_, _, _, _, rfl, rfl⟩
  · rintro r M1 ⟨a12, a13, a14, a15, rfl, rfl⟩
    refine ⟨by simp, ?_⟩
    walk_at "ds"
    rw [ints_length]
    rfl
  · exact ⟨none, none, none, none, rfl, rfl⟩
theorem ap5 {M A B C E F : Hd} : M ++ A ++ B ++ C ++ E ++ F = M ++ (A ++ B ++ C ++ E ++ F) := by simp only [List.append_assoc]
theorem inner_tasks_ok {m : Int} {N : Nat} {k : Tk} {n : Nd} {M : Hd} (hm : 2 ≤ m ∧ m ≤ 1000000000) (h : TkOk m N k) (hn : NOk k.i n) (hl : ¬ n.leaf = true) :
    Wp (m_inner_tasks [nD n, tkD k, .int m] M) (okQ fun d M1 => ∃ X j, d = .ref j ∧ M1 = M ++ X ∧ M1[j]? = some (.lst ((expand m k n).map tkD))) := by
  have h' := h
  obtain ⟨hi, hc, ht, hsp, hne⟩ := h
  refine wp_mir rfl ?_
  unfold g_inner_tasks
  have pk : ∀ {fi se : List (Int × Int)} {p q : Nat} {M : Hd}, M[p]? = some (.lst (fi.map prD)) → M[q]? = some (.lst (se.map prD)) → (∀ x ∈ fi, -1 ≤ x.1 ∧ x.1 ≤ 1) → (∀ x ∈ se, -1 ≤ x.1 ∧ x.1 ≤ 1) → fi.length ≤ 10 → se.length ≤ 10 → m_product_tasks [.ref p, .ref q, tkD k, .int m] M = some (.ok (.ref M.length) (M ++ [.lst ((prodT m k fi se).map tkD)])) := fun h1 h2 h3 h4 h5 h6 => product_tasks_ok hm h' h1 h2 h3 h4 h5 h6
  rw [tkD_tup] at pk ⊢
  have one : ∀ i : Int, [D.tup [.int 1, .int i]] = [((1 : Int), i)].map prD := fun i => rfl
  cases n with
  | const c => exact absurd rfl hl
  | inp c => exact absurd rfl hl
  | scaled c i =>
    show Wp _ (fnQ (okQ fun d M1 => ∃ X j, d = .ref j ∧ M1 = M ++ X ∧ M1[j]? = some (.lst [.tup [.int i, .int k.t, .int (k.c * c % m), .tup ((fcB k.b k.w).map fcD), .int k.s]])))
    clear pk
    unfold nD
    generalize (fcB k.b k.w).map fcD = fs
    walk_at "sx"
    rw [mulG_l (by omega)]
    walk_at "sx"
    rw [modG_ok (by omega)]
    walk_at "sx"
    exact ⟨_, _, rfl, rfl, get_here⟩
  | sum i j =>
    show Wp _ (fnQ (okQ fun d M1 => ∃ X l, d = .ref l ∧ M1 = M ++ X ∧ M1[l]? = some (.lst [.tup [.int i, .int k.t, .int k.c, .tup ((fcB k.b k.w).map fcD), .int k.s], .tup [.int j, .int k.t, .int k.c, .tup ((fcB k.b k.w).map fcD), .int k.s]])))
    clear pk
    unfold nD
    generalize (fcB k.b k.w).map fcD = fs
    walk_at "sx"
    refine (wp_comp (M := M) (ds := [.int i, .int j]) (gs := []) (keep := fun _ => true) (val := fun d => .tup [d, .int k.t, .int k.c, .tup fs, .int k.s]) ?_ (fun X => by simp) (by simp) ?_).ok ?_
    · unfold seqI
      simp only [eSl, oSome, oNone, eC, eVar, List.getElem?_cons_zero, bnd_ok]
      unfold sliceD
      dsimp only
      rw [cut_1]
      rfl
    · intro d hd X
      refine ⟨_, rfl, ?_⟩
      unfold tYes
      rw [wp_some]
      refine ⟨rfl, [], by rw [List.append_nil], fun _ => ?_⟩
      walk_at "ds"
      exact ⟨[], by rw [List.append_nil]⟩
    · rintro _ _ ⟨rfl, Z, rfl⟩
      exact ⟨_, _, rfl, rfl, get_here⟩
  | prod i j =>
    show Wp _ (fnQ (okQ fun d M1 => ∃ X l, d = .ref l ∧ M1 = M ++ X ∧ M1[l]? = some (.lst ((prodT m k [(1, i)] [(1, j)]).map tkD))))
    unfold nD
    generalize (fcB k.b k.w).map fcD = fs at pk ⊢
    walk_at "sx"
    rw [one i, one j, pk (fi := [(1, i)]) (se := [(1, j)]) (get_old get_here) get_here (by simp) (by simp) (by simp) (by simp)]
    walk_at "sx"
    exact ⟨_, _, rfl, ap3, get_here⟩
  | choose i j l =>
    show Wp _ (fnQ (okQ fun d M1 => ∃ X u, d = .ref u ∧ M1 = M ++ X ∧ M1[u]? = some (.lst (.tup [.int l, .int k.t, .int k.c, .tup ((fcB k.b k.w).map fcD), .int k.s] :: (prodT m k [(1, i)] [(1, j), (-1, l)]).map tkD))))
    unfold nD
    generalize (fcB k.b k.w).map fcD = fs at pk ⊢
    have two : ∀ i j : Int, [D.tup [.int 1, .int i], D.tup [.int (-1), .int j]] = [((1 : Int), i), (-1, j)].map prD := fun i j => rfl
    walk_at "sx"
    rw [one i, two j l, pk (fi := [(1, i)]) (se := [(1, j), (-1, l)]) get_here (get_old get_here) (by simp) (by simp) (by simp) (by simp)]
    walk_at "sx"
    rw [add_ref (get_old (get_old (get_old get_here))) get_here (by unfold prodT passT; simp)]
    walk_at "sx"
    exact ⟨_, _, rfl, ap5, get_here⟩
theorem steps_pos {m : Int} {s : List Nd} (hm : 0 < m) (hs : NsOk s) : ∀ k, TkOk m s.length k → 1 ≤ (stepsOf m s k).length := by
  refine tk_ind hm hs ?_ ?_
  · intro k h hl
    rw [(steps_leaf hl).1]
    exact Nat.le_refl _
  · intro k h hl ih
    rw [(steps_node hm hs h hl).1]
    obtain ⟨k', hk'⟩ : ∃ k', k' ∈ expand m k (nth s k.i) := by
      cases hnd : nth s k.i with
      | const c => rw [hnd] at hl; exact absurd rfl hl
      | inp c => rw [hnd] at hl; exact absurd rfl hl
      | scaled c i => exact ⟨_, List.mem_cons_self⟩
      | sum i j => exact ⟨_, List.mem_cons_self⟩
      | prod i j => exact ⟨_, List.mem_cons_self⟩
      | choose i j l => exact ⟨_, List.mem_cons_self⟩
    have h1 := (ih k' hk').2
    have h2 : (stepsOf m s k').length ≤ ((expand m k (nth s k.i)).map (stepsOf m s)).flatten.length := List.Sublist.length_le (List.sublist_flatten_of_mem (List.mem_map_of_mem hk'))
    omega
theorem flat_len {m : Int} {s : List Nd} (hm : 0 < m) (hs : NsOk s) : ∀ (l : List Tk), (∀ k ∈ l, TkOk m s.length k) → l.length ≤ (l.map (stepsOf m s)).flatten.length
  | [], _ => Nat.le_refl _
  | k :: l, h => by
    have h1 := steps_pos hm hs k (h k List.mem_cons_self)
    have h2 := flat_len hm hs l fun k' hk => h k' (List.mem_cons_of_mem _ hk)
    rw [List.map_cons, List.flatten_cons, List.length_append, List.length_cons]
    omega
/-- the task of a whole source -/
def wholeT (s : List Nd) : Tk := ⟨(s.length : Int) - 1, 0, 1, false, 1⟩
def compS (m : Int) (s : List Nd) : List Sp_ := stepsOf m s (wholeT s)
theorem wholeT_ok {m : Int} {s : List Nd} (hm : 2 ≤ m) (h0 : 1 ≤ s.length) : TkOk m s.length (wholeT s) := by
  unfold wholeT TkOk
  dsimp only
  omega
theorem cg_last {cs : List Int} {p : Int} : cg (cs ++ [p]) (((cs ++ [p]).length : Int) - 1) = p := by
  unfold cg
  rw [List.getD_eq_getElem?_getD, List.length_append]
  simp
theorem compS_len {m : Int} {s : List Nd} {cs : List Int} {p : Int} (hm : 2 ≤ m) (hs : NsOk s) (h0 : 1 ≤ s.length) (hc : costs s = cs ++ [p]) : ((compS m s).length : Int) = p := by
  unfold compS
  rw [steps_len (by omega) hs _ (wholeT_ok hm h0)]
  show cg (costs s) ((s.length : Int) - 1) = p
  have e : s.length = (cs ++ [p]).length := by rw [← hc]; exact (costs_len s).symm
  rw [hc, e, cg_last]
theorem compS_ok {m : Int} {s : List Nd} {cs : List Int} {p : Int} (hm : 2 ≤ m ∧ m ≤ 1000000000) (hs : NsOk s) (h0 : 1 ≤ s.length) (hc : costs s = cs ++ [p]) (hp : p ≤ 20000) : PgOk m 3 (need s) (compS m s) 20000 := by
  have hx : ∀ x ∈ compS m s, SpOk m 3 (need s) x := fun x hx => (steps_each (by omega) hs _ (wholeT_ok hm.1 h0) x hx).1
  have hn := need_60 hs
  exact ⟨hm, by decide, by omega, by rw [compS_len hm.1 hs h0 hc]; exact hp, hx, ht_of hx⟩
theorem compS_run {m : Int} {gs vs : List Int} {v : Int} {s : List Nd} (hm : 2 ≤ m) (hs : NsOk s) (h0 : 1 ≤ s.length) (hv : vals m gs s = vs ++ [v]) {mem : List Int} (hl : mem.length = 3) (hi : ∀ v ∈ mem, 0 ≤ v ∧ v < m) : ran m gs mem (compS m s) = addAt m mem 0 v := by
  unfold compS
  rw [steps_run hm hs _ (wholeT_ok hm h0) mem hl hi]
  have e : s.length = (vs ++ [v]).length := by rw [← hv]; exact (runF_len s).symm
  show addAt m mem 0 (1 * cg (vals m gs s) ((s.length : Int) - 1) * 1) = _
  rw [hv, e, cg_last, Int.one_mul, Int.mul_one]
theorem tru_lst {f : EF} {r : Ev} {M M1 : Hd} {i : Nat} {ds : List D} (h : f r M = some (.ok (.ref i) M1)) (h2 : M1[i]? = some (.lst ds)) : tTru f r M = some (.ok (!ds.isEmpty) M1) := by
  unfold tTru
  rw [h, bnd_ok]
  unfold truD
  dsimp only
  rw [h2]
theorem eLm_pop {fo : EF} {r : Ev} {M : Hd} {i : Nat} {ds : List D} {y : D} (h1 : fo r M = some (.ok (.ref i) M)) (h2 : M[i]? = some (.lst (ds ++ [y]))) : eLm popG fo aNil r M = some (.ok y (M.set i (.lst ds))) := by
  unfold eLm
  rw [h1, bnd_ok]
  dsimp only
  rw [h2]
  simp only [aNil, bnd_ok]
  rw [h2]
  unfold popG
  dsimp only
  rw [show (ds ++ [y]).length - 1 = ds.length by simp, List.getElem?_concat_length, List.dropLast_concat]
theorem eLm_extend {fo fe : EF} {r : Ev} {M M1 : Hd} {i j : Nat} {ds ds' es : List D} (h1 : fo r M = some (.ok (.ref i) M)) (h2 : M[i]? = some (.lst ds')) (h3 : fe r M = some (.ok (.ref j) M1)) (h4 : M1[i]? = some (.lst ds)) (h5 : M1[j]? = some (.lst es)) (hl : ds.length + es.length ≤ 16777216) : eLm extendG fo (aCons fe aNil) r M = some (.ok .non (M1.set i (.lst (ds ++ es)))) := by
  unfold eLm
  rw [h1, bnd_ok]
  dsimp only
  rw [h2]
  simp only [aCons, aNil, h3, bnd_ok]
  rw [h4]
  unfold extendG
  dsimp only
  rw [h5]
  dsimp only
  rw [if_pos hl]
theorem make_go {m n k z : Int} {xs : List Sp_} {q : Nat} {g : AF} {r : Ev} {M M1 : Hd} {P : Rs D → Prop} (ok : PgOk m n k xs z) (hz : z ≤ 20000) (hg : g r M = some (.ok [.int m, .int n, .int k, .ref q] M1)) (hq : M1[q]? = some (.lst (xs.map spd)))
    (h : P (.ok (.ref M1.length) (M1 ++ [progO m n k (M1.length + 1), .lst (xs.map spd)]))) : Wp (eMake "Program" m_Program___init__ g r M) P := wp_of_eq (make_ok ok hz hg hq) h
theorem compile_ok {m : Int} {s : List Nd} {M : Hd} {cs : List Int} {p : Int} (hm : 2 ≤ m ∧ m ≤ 1000000000) (hs : NsOk s) (h0 : 1 ≤ s.length) (h1 : s.length ≤ 200) (hc : costs s = cs ++ [p]) (hp : p ≤ 20000) :
    Wp (m_compile_source [.tup (s.map nD), .int m] M) (okQ fun d M1 => ∃ X z u, d = .ref z ∧ M1 = M ++ X ∧ PrgAt M1 z u m 3 (need s) (compS m s) ∧ M.length ≤ u) := by
  refine wp_mir rfl ?_
  unfold g_compile_source
  walk_at "ds"
  refine (cost_ok h1 hs hc).ok ?_
  rintro _ _ ⟨rfl, X1, rfl⟩
  walk_at "ds"
  have hn60 := need_60 hs
  have ok0 : PgOk m 3 (need s) [] 20000 := ⟨hm, by decide, by omega, by decide, (fun x h => nomatch h), fun ⟨x, h, _⟩ => nomatch h⟩
  refine make_go (xs := []) (q := (M ++ X1).length) (M1 := M ++ X1 ++ [O.lst []]) ok0 (by decide) ?_ get_here ?_
  · simp only [aCons, aNil, eVar, eC, eCall, eLst, List.getElem?_cons_zero, List.getElem?_cons_succ, bnd_ok]
    rw [needs_eq h0 h1 hs]
    rfl
  generalize hB : M ++ X1 ++ [O.lst []] ++ [progO m 3 (need s) ((M ++ X1 ++ [O.lst []]).length + 1), .lst (([] : List Sp_).map spd)] = B
  have hBM : ∃ Z, B = M ++ Z := ⟨_, by rw [← hB]; exact ap3⟩
  have he : B[(M ++ X1 ++ [O.lst []]).length]? = some (progO m 3 (need s) ((M ++ X1 ++ [O.lst []]).length + 1)) := by rw [← hB]; exact make_at.at_
  clear hB ok0
  generalize (M ++ X1 ++ [O.lst []]).length + 1 = eu at he
  generalize (M ++ X1 ++ [O.lst []]).length = e at he ⊢
  walk_at "ds"
  refine Wp.imp (Q := fun o => o = (Fl.nx [some (.tup (s.map nD)), some (.int m), some (.int p), some (.ref e), none, none, none, none], B)) ?_ ?_
  · walk_at "di"
    rw [if_neg (by omega)]
    trivial
  rintro _ rfl
  walk_at "ds"
  rw [List.length_map]
  have eT : D.tup [.int ((s.length : Int) - 1), .int 0, .int 1, .tup [], .int 1] = tkD (wholeT s) := rfl
  rw [eT]
  clear eT
  have eM : B ++ [O.lst []] ++ [O.lst [tkD (wholeT s)]] = B ++ O.lst (([] : List Sp_).map spd) :: O.lst ([wholeT s].map tkD) :: [] := by rw [List.append_assoc]; rfl
  rw [eM, show (B ++ [O.lst []]).length = B.length + 1 by simp]
  clear eM
  refine Wp.imp (Q := fun o => ∃ X a6 a7, o = (Fl.nx [some (.tup (s.map nD)), some (.int m), some (.int p), some (.ref e), some (.ref B.length), some (.ref (B.length + 1)), a6, a7], B ++ O.lst ((compS m s).map spd) :: X)) ?_ ?_
  · refine wp_while (n := ([wholeT s].map (visOf m s)).sum) (fun n r M1 => ∃ (dn : List Sp_) (st : List Tk) (X : Hd) (a6 a7 : Option D), r = [some (.tup (s.map nD)), some (.int m), some (.int p), some (.ref e), some (.ref B.length), some (.ref (B.length + 1)), a6, a7] ∧ M1 = B ++ O.lst (dn.map spd) :: O.lst (st.map tkD) :: X ∧ (∀ k ∈ st, TkOk m s.length k) ∧ dn ++ (st.reverse.map (stepsOf m s)).flatten = compS m s ∧ n = (st.map (visOf m s)).sum) ?_ ?_
    rotate_left
    · refine ⟨[], [wholeT s], [], none, none, rfl, rfl, ?_, ?_, rfl⟩
      · intro k hk
        rw [List.mem_singleton] at hk
        subst hk
        exact wholeT_ok hm.1 h0
      · simp [compS]
    rintro n r M1 ⟨dn, st, X, a6, a7, rfl, rfl, hst, hdn, rfl⟩
    have gT : (B ++ O.lst (dn.map spd) :: O.lst (st.map tkD) :: X)[B.length + 1]? = some (.lst (st.map tkD)) := get_mid2
    rcases List.eq_nil_or_concat st with rfl | ⟨st', k, rfl⟩
    · refine wp_of_eq (tru_lst rfl gT) ⟨fun _ => ⟨O.lst (([] : List Tk).map tkD) :: X, a6, a7, ?_⟩, fun h => nomatch h⟩
      have : dn = compS m s := by simpa using hdn
      rw [this]
    rw [List.concat_eq_append] at hst hdn gT ⊢
    have hk : TkOk m s.length k := hst k (by simp)
    have hst' : ∀ k ∈ st', TkOk m s.length k := fun k' hk' => hst k' (List.mem_append_left _ hk')
    have hlen : dn.length + (st' ++ [k]).length ≤ 20000 := by
      have h1 := flat_len (m := m) (by omega) hs (st' ++ [k]).reverse (fun k' hk' => hst k' (List.mem_reverse.mp hk'))
      have h2 := compS_len hm.1 hs h0 hc
      rw [← hdn, List.length_append] at h2
      rw [List.length_reverse] at h1
      omega
    rw [List.length_append, List.length_singleton] at hlen
    rw [List.reverse_append, List.reverse_singleton, List.singleton_append, List.map_cons, List.flatten_cons] at hdn
    have hsum : ((st' ++ [k]).map (visOf m s)).sum = (st'.map (visOf m s)).sum + visOf m s k := by
      rw [List.map_append, List.sum_append]
      simp
    rw [hsum]
    rw [List.map_append, List.map_singleton] at gT ⊢
    refine wp_of_eq (tru_lst rfl gT) ⟨fun h => by simp at h, fun _ => ?_⟩
    rw [wp_seq]
    unfold sAsg
    rw [wp_exB, eLm_pop rfl gT, set_midS]
    walk_at "ds"
    have hik := hk.1
    have hno := nth_ok hs hik
    have e1 : ixG (tkD k) (.int 0) (B ++ O.lst (dn.map spd) :: O.lst (st'.map tkD) :: X) = some (.ok (.int k.i) (B ++ O.lst (dn.map spd) :: O.lst (st'.map tkD) :: X)) := by
      rw [tkD_tup, ixG_tup, atI_c0]
      rfl
    rw [e1]
    walk_at "ds"
    have e2 : atI (s.map nD) k.i = some (nD (nth s k.i)) := atI_nn hik.1 (by rw [List.getElem?_map, nth_get hik]; rfl)
    rw [e2]
    walk_at "ds"
    refine wp_if2 (c := (nth s k.i).leaf = true) ?_ (fun hl => ?_) (fun hl => ?_)
    · cases nth s k.i with
      | const c => unfold nD; walk_at "sx"; exact ⟨_, rfl, by simp [Nd.leaf]⟩
      | inp c => unfold nD; walk_at "sx"; exact ⟨_, rfl, by simp [Nd.leaf]⟩
      | sum i j => unfold nD; walk_at "sx"; exact ⟨_, rfl, by simp [Nd.leaf]⟩
      | prod i j => unfold nD; walk_at "sx"; exact ⟨_, rfl, by simp [Nd.leaf]⟩
      | scaled i j => unfold nD; walk_at "sx"; exact ⟨_, rfl, by simp [Nd.leaf]⟩
      | choose i j l => unfold nD; walk_at "sx"; exact ⟨_, rfl, by simp [Nd.leaf]⟩
    · unfold sDrop
      rw [wp_exB, eLm_append (M := B ++ O.lst (dn.map spd) :: O.lst (st'.map tkD) :: X) (M1 := B ++ O.lst (dn.map spd) :: O.lst (st'.map tkD) :: X) (i := B.length) (ds := dn.map spd) (y := spd (leafS m k (nth s k.i))) rfl get_here ?_ get_here (by rw [List.length_map]; omega), wp_some]
      · dsimp only
        rw [wp_some, lpQ_nx, set_here]
        rw [(steps_leaf hl).1, List.singleton_append] at hdn
        rw [(steps_leaf hl).2]
        refine ⟨_, Nat.lt_succ_self _, dn ++ [leafS m k (nth s k.i)], st', X, _, _, rfl, ?_, hst', ?_, rfl⟩
        · rw [List.map_append, List.map_singleton]
        · rw [List.append_assoc, List.singleton_append]
          exact hdn
      · simp only [eCall, aCons, aNil, eVar, List.getElem?_cons_zero, List.getElem?_cons_succ, bnd_ok]
        exact leaf_step_ok hm hk hno hl
    · obtain ⟨o, eI, hI⟩ := inner_tasks_ok (M := B ++ O.lst (dn.map spd) :: O.lst (st'.map tkD) :: X) hm hk hno hl
      cases o with
      | er c M2 => exact hI.elim
      | ok d2 M2 =>
        obtain ⟨X2, j, rfl, rfl, gj⟩ := hI
        have hex := expand_ok (by omega) hk hno
        have hel : (expand m k (nth s k.i)).length ≤ 7 := by
          cases nth s k.i <;> simp [expand, prodT, passT]
        unfold sDrop
        rw [wp_exB, eLm_extend (M := B ++ O.lst (dn.map spd) :: O.lst (st'.map tkD) :: X) (M1 := B ++ O.lst (dn.map spd) :: O.lst (st'.map tkD) :: X ++ X2 ++ [O.lst ((expand m k (nth s k.i)).map tkD).reverse]) (i := B.length + 1) (ds' := st'.map tkD) (ds := st'.map tkD) (es := ((expand m k (nth s k.i)).map tkD).reverse) rfl get_mid2 ?_ (get_old (get_old get_mid2)) get_here (by rw [List.length_map, List.length_reverse, List.length_map]; omega), wp_some]
        · dsimp only
          have e3 : B ++ O.lst (dn.map spd) :: O.lst (st'.map tkD) :: X ++ X2 ++ [O.lst ((expand m k (nth s k.i)).map tkD).reverse] = B ++ O.lst (dn.map spd) :: O.lst (st'.map tkD) :: (X ++ (X2 ++ [O.lst ((expand m k (nth s k.i)).map tkD).reverse])) := by simp only [List.append_assoc, List.cons_append]
          rw [wp_some, lpQ_nx, e3, set_midS]
          rw [(steps_node (by omega) hs hk hl).1] at hdn
          rw [(steps_node (by omega) hs hk hl).2]
          refine ⟨(st'.map (visOf m s)).sum + ((expand m k (nth s k.i)).map (visOf m s)).sum, by omega, dn, st' ++ (expand m k (nth s k.i)).reverse, X ++ (X2 ++ [O.lst ((expand m k (nth s k.i)).map tkD).reverse]), _, _, rfl, ?_, ?_, ?_, ?_⟩
          · rw [List.map_append, List.map_reverse]
          · intro k' hk'
            rcases List.mem_append.mp hk' with hk' | hk'
            · exact hst' k' hk'
            · exact (hex k' (List.mem_reverse.mp hk')).1
          · rw [List.reverse_append, List.reverse_reverse, List.map_append, List.flatten_append]
            exact hdn
          · rw [List.map_append, List.sum_append, List.map_reverse, List.sum_reverse]
        · simp only [eUn, eCall, aCons, aNil, eVar, List.getElem?_cons_zero, List.getElem?_cons_succ, bnd_ok]
          rw [eI, bnd_ok]
          exact revG_of gj
  rintro _ ⟨X, a6, a7, rfl⟩
  walk_at "ds"
  refine make_go (xs := compS m s) (q := B.length) (M1 := B ++ O.lst ((compS m s).map spd) :: X) (compS_ok hm hs h0 hc hp) (by decide) ?_ get_here ?_
  · simp only [aCons, aNil, eVar, eC, eUn, List.getElem?_cons_zero, List.getElem?_cons_succ, bnd_ok]
    rw [(fldP (get_old he)).2.2.1]
    rfl
  walk_at "ds"
  obtain ⟨Z, rfl⟩ := hBM
  exact ⟨_, _, _, rfl, ap3, make_at, by simp; omega⟩
theorem three {mem : List Int} (h : mem.length = 3) : ∃ a b c, mem = [a, b, c] := by
  match mem, h with
  | [a, b, c], _ => exact ⟨a, b, c, rfl⟩
theorem Dr.keep {M M1 R : Hd} (h : Dr M R) (h1 : Dr M1 R) {i : Nat} (hi : 2 ≤ i) : M1[i]? = M[i]? := by
  obtain ⟨j, rfl⟩ : ∃ j, i = j + 2 := ⟨i - 2, by omega⟩
  rw [h.get, h1.get]
theorem PrgAt.two {M : Hd} {z u : Nat} {m n k : Int} {xs : List Sp_} {R : Hd} (h : Dr M R) (p : PrgAt M z u m n k xs) : 2 ≤ z := by
  obtain ⟨ds, a, rfl, _⟩ := h
  have := p.at_
  rcases z with _ | _ | z
  · cases this
  · cases this
  · omega
theorem run_go {m n k zz : Int} {xs : List Sp_} {z s p q : Nat} {fo : EF} {g : AF} {r : Ev} {M0 M1 M2 : Hd} {mem gs : List Int} (ok : PgOk m n k xs zz) (hfo : fo r M0 = some (.ok (.ref z) M1)) (h1 : PrgAt M1 z s m n k xs) (hg : g r M1 = some (.ok [.ref p, .ref q] M2)) (h : PrgAt M2 z s m n k xs) (hp : M2[p]? = some (.lst (mem.map D.int))) (hq : M2[q]? = some (.lst (gs.map D.int))) (hn : (mem.length : Int) = n) (hk : (gs.length : Int) = k) (hmem : ∀ v ∈ mem, 0 ≤ v ∧ v < m) (hgs : ∀ v ∈ gs, 0 ≤ v ∧ v < m) :
    Wp (eMeth "Program" "run" m_Program_run fo g r M0) (okQ fun d M3 => d = .ref M2.length ∧ ∃ X, M3 = M2 ++ .lst ((ran m gs mem xs).map D.int) :: X) := by
  rw [eMeth_go (M2 := M2) (ds := [.ref p, .ref q]) hfo h1.at_ lk_run hg]
  refine (run_ok ok.hm ok.hx h.at_ h.st hp hq hn hk hmem hgs).ok ?_
  rintro _ _ ⟨rfl, Y, rfl⟩
  exact ⟨rfl, Y, rfl⟩
/-! ### drawn lists of numbers -/
theorem Dr.keepX {M M1 R X : Hd} (h : Dr M R) (h1 : Dr M1 (R ++ X)) {i : Nat} {o : O} (hi : 2 ≤ i) (e : M[i]? = some o) : M1[i]? = some o := by
  obtain ⟨j, rfl⟩ : ∃ j, i = j + 2 := ⟨i - 2, by omega⟩
  rw [h1.get]
  rw [h.get] at e
  exact get_app_l e
/-! ### what stays -/
/-! ### the worth of factors -/
theorem worth_ok {m n k t : Int} {a b : Nat} {M : Hd} {mem gs : List Int} {fs : List Fc} (hm : 2 ≤ m ∧ m ≤ 1000000000) (ha : M[a]? = some (.lst (mem.map D.int))) (hb : M[b]? = some (.lst (gs.map D.int))) (hn : (mem.length : Int) = n) (hk : (gs.length : Int) = k) (hfs : ∀ x ∈ fs, FcOk t n k x) :
    m__law_worth [.tup (fs.map fcD), .ref a, .ref b, .int m] M = some (.ok (.int (addV m mem gs 1 fs)) M) := by
  refine wp_eq ?_
  refine wp_mir rfl ?_
  unfold g__law_worth
  walk_at "ds"
  refine wp_forL (fun i r M1 => ∃ (u v : Option D), r = [some (.tup (fs.map fcD)), some (.ref a), some (.ref b), some (.int m), some (.int (addV m mem gs 1 (fs.take i))), u, v] ∧ M1 = M) ?_ ?_ ?_
  · rintro i d r M1 hd ⟨u, v, rfl, rfl⟩
    rw [List.getElem?_map] at hd
    obtain ⟨x, hx, rfl⟩ := Option.map_eq_some_iff.mp hd
    have hxm := hfs x (List.mem_of_getElem? hx)
    have hav := addV_in (mem := mem) (gs := gs) (show 0 < m by omega) (fs.take i) 1 (by omega)
    have e : addV m mem gs 1 (fs.take (i + 1)) = addV m mem gs 1 (fs.take i) * facV mem gs x % m := by
      unfold addV
      rw [List.take_succ, hx, List.foldl_append]
      rfl
    rw [e]
    generalize addV m mem gs 1 (fs.take i) = av at hav ⊢
    cases x with
    | cell j =>
      simp only [FcOk] at hxm
      unfold fcD facV
      refine ⟨by simp, _, rfl, ?_⟩
      generalize D.tup (fs.map fcD) = T
      walk_at "sx"
      rw [ha]
      walk_at "sx"
      rw [atI_cs (by omega)]
      walk_at "sx"
      rw [mulG_l (by omega)]
      walk_at "sx"
      rw [modG_ok (by omega)]
      walk_at "sx"
      exact ⟨_, _, rfl⟩
    | inp j =>
      simp only [FcOk] at hxm
      unfold fcD facV
      refine ⟨by simp, _, rfl, ?_⟩
      generalize D.tup (fs.map fcD) = T
      walk_at "sx"
      rw [hb]
      walk_at "sx"
      rw [atI_cs (by omega)]
      walk_at "sx"
      rw [mulG_l (by omega)]
      walk_at "sx"
      rw [modG_ok (by omega)]
      walk_at "sx"
      exact ⟨_, _, rfl⟩
  · rintro r M1 ⟨u, v, rfl, rfl⟩
    rw [List.length_map, List.take_length]
    refine ⟨by simp, ?_⟩
    walk_at "sx"
  · exact ⟨none, none, rfl, rfl⟩
theorem worth_step {m : Int} {mem gs : List Int} {c y : Int} {fs : List Fc} : (y + c * addV m mem gs 1 fs) % m = (y + addV m mem gs c fs) % m := by
  have h1 : Cg m (addV m mem gs 1 fs) (1 * pF mem gs fs) := ⟨addV m mem gs 1 fs / m - 1 * pF mem gs fs / m, by
    have e := addV_eq (m := m) (mem := mem) (gs := gs) fs 1
    have a1 := Int.mul_ediv_add_emod (addV m mem gs 1 fs) m
    have a2 := Int.mul_ediv_add_emod (1 * pF mem gs fs) m
    rw [Int.mul_sub]
    omega⟩
  have h2 : Cg m (addV m mem gs c fs) (c * pF mem gs fs) := ⟨addV m mem gs c fs / m - c * pF mem gs fs / m, by
    have e := addV_eq (m := m) (mem := mem) (gs := gs) fs c
    have a1 := Int.mul_ediv_add_emod (addV m mem gs c fs) m
    have a2 := Int.mul_ediv_add_emod (c * pF mem gs fs) m
    rw [Int.mul_sub]
    omega⟩
  have h3 : Cg m (y + c * addV m mem gs 1 fs) (y + addV m mem gs c fs) := Cg.add Cg.rfl' ((Cg.mul Cg.rfl' h1).trans ((Cg.of_eq (by grind)).trans h2.symm))
  exact h3.eq
/-! ### the law performs steps of all kinds -/
theorem run7_ok {m n k : Int} {xs : List Sp_} {a b q : Nat} {M : Hd} {mem gs : List Int} (hm : 2 ≤ m ∧ m ≤ 1000000000) (hx : ∀ x ∈ xs, SpOk m n k x) (hnt : ∀ x ∈ xs, x.isT = false) (ha : M[a]? = some (.lst (xs.map spd))) (hb : M[b]? = some (.lst (mem.map D.int))) (hq : M[q]? = some (.lst (gs.map D.int))) (hn : (mem.length : Int) = n) (hk : (gs.length : Int) = k) (hmem : ∀ v ∈ mem, 0 ≤ v ∧ v < m) :
    Wp (m__law_run [.ref a, .int m, .ref b, .ref q] M) (okQ fun d M1 => d = .ref M.length ∧ ∃ X, M1 = M ++ .lst ((ran m gs mem xs).map D.int) :: X) := by
  refine wp_mir rfl ?_
  unfold g__law_run
  walk_at "ds"
  rw [listG_ref hb]
  walk_at "ds"
  rw [show (M ++ [O.lst (mem.map D.int)])[a]? = _ from get_old ha]
  walk_at "ds"
  refine wp_forL (fun i r M1 => ∃ (X : Hd) (a5 a6 a7 : Option D), r = [some (.ref a), some (.int m), some (.ref b), some (.ref q), some (.ref M.length), a5, a6, a7] ∧ M1 = M ++ .lst ((ran m gs mem (xs.take i)).map D.int) :: X) ?_ ?_ ?_
  · rintro i d r M1 hd ⟨X, a5, a6, a7, rfl, rfl⟩
    rw [List.getElem?_map] at hd
    obtain ⟨x, hxi, rfl⟩ := Option.map_eq_some_iff.mp hd
    have okx := hx x (List.mem_of_getElem? hxi)
    refine ⟨by simp only [still_one, still_nil, and_true]; exact get_old ha, _, rfl, ?_⟩
    rw [ran_take hxi]
    have hri := ran_inv (gs := gs) (show 0 < m by omega) (xs.take i) mem hmem
    generalize ran m gs mem (xs.take i) = mm at hri ⊢
    obtain ⟨hml, hmi⟩ := hri
    have hmn : (mm.length : Int) = n := by omega
    have hcg := cg_in (show 0 < m by omega) hmi
    have gm : (M ++ .lst (mm.map D.int) :: X)[M.length]? = some (.lst (mm.map D.int)) := get_here
    have gq : (M ++ .lst (mm.map D.int) :: X)[q]? = _ := get_old hq
    cases x with
    | scale t u =>
      obtain ⟨ht, hu, hg⟩ := okx
      have := hcg t
      unfold spd
      walk_at "sx"
      rw [gm]
      walk_at "sx"
      rw [atI_cs (by omega)]
      walk_at "sx"
      rw [mulG_l (by omega)]
      walk_at "sx"
      rw [modG_ok (by omega)]
      walk_at "sx"
      rw [gm]
      dsimp only
      rw [ixN_cg (by omega)]
      walk_at "sx"
      rw [set_here, map_setI]
      exact ⟨_, _, _, _, rfl, rfl⟩
    | swap s t =>
      obtain ⟨ha2, hb2, hne⟩ := okx
      unfold spd
      walk_at "sx"
      rw [gm]
      walk_at "sx"
      rw [atI_cs (by omega)]
      walk_at "sx"
      rw [gm]
      walk_at "sx"
      rw [atI_cs (by omega)]
      walk_at "sx"
      rw [gm]
      dsimp only
      rw [ixN_cg (by omega)]
      walk_at "sx"
      rw [set_here, get_here, map_setI]
      dsimp only
      rw [ixN_cg (by rw [List.length_set]; omega)]
      walk_at "sx"
      rw [set_here, map_setI]
      exact ⟨_, _, _, _, rfl, rfl⟩
    | table t s c f u v => cases (hnt _ (List.mem_of_getElem? hxi))
    | add t c fs =>
      obtain ⟨ht, hcc, hl, hfs⟩ := okx
      have := hcg t
      unfold spd
      walk_at "sx"
      rw [worth_ok hm gm gq hmn hk hfs]
      walk_at "sx"
      rw [gm]
      walk_at "sx"
      rw [atI_cs (by omega)]
      walk_at "sx"
      rw [mulG_l (by omega)]
      walk_at "sx"
      rw [modG_ok (by omega)]
      walk_at "sx"
      rw [gm]
      dsimp only
      rw [ixN_cg (by omega)]
      walk_at "sx"
      rw [set_here, map_setI, worth_step]
      exact ⟨_, _, _, _, rfl, rfl⟩
  · rintro r M1 ⟨X, a5, a6, a7, rfl, rfl⟩
    refine ⟨by simp only [still_one, still_nil, and_true]; exact get_old ha, ?_⟩
    walk_at "ds"
    rw [List.length_map, List.take_length]
    exact ⟨_, rfl⟩
  · exact ⟨[], none, none, none, rfl, rfl⟩
/-! ### witnesses -/
theorem cg_get {mem : List Int} {t : Int} (h : 0 ≤ t ∧ t < mem.length) : atI (mem.map D.int) t = some (.int (cg mem t)) := atI_cs h
theorem change_ok {m n k zz t : Int} {xs : List Sp_} {z s p q : Nat} {M : Hd} {mem gs : List Int} (ok : PgOk m n k xs zz) (h : PrgAt M z s m n k xs) (hp : M[p]? = some (.lst (mem.map D.int))) (hq : M[q]? = some (.lst (gs.map D.int))) (hn : (mem.length : Int) = n) (hk : (gs.length : Int) = k) (hmem : ∀ v ∈ mem, 0 ≤ v ∧ v < m) (hgs : ∀ v ∈ gs, 0 ≤ v ∧ v < m) (ht : 0 ≤ t ∧ t < n) :
    Wp (m_change_of [.ref z, .int t, .ref p, .ref q] M) (okQ fun d M1 => d = .int ((cg (ran m gs mem xs) t - cg mem t) % m) ∧ ∃ X, M1 = M ++ X) := by
  have hm := ok.hm
  have hri := ran_inv (gs := gs) (show 0 < m by omega) xs mem hmem
  refine wp_mir rfl ?_
  unfold g_change_of
  walk_at "ds"
  refine (run_go (M1 := M) (M2 := M) ok rfl h rfl h hp hq hn hk hmem hgs).ok ?_
  rintro _ _ ⟨rfl, X, rfl⟩
  walk_at "ds"
  rw [get_here]
  walk_at "ds"
  rw [cg_get (by omega)]
  walk_at "ds"
  rw [show (M ++ O.lst ((ran m gs mem xs).map D.int) :: X)[p]? = _ from get_old hp]
  walk_at "ds"
  rw [cg_get (by omega)]
  walk_at "ds"
  rw [(fldP (h.app (X := O.lst ((ran m gs mem xs).map D.int) :: X)).at_).1]
  walk_at "ds"
  rw [modG_ok (by omega)]
  walk_at "ds"
  exact ⟨_, rfl⟩
theorem shows_spoilt_ok {m n k zz t c : Int} {xs : List Sp_} {z s p q : Nat} {M : Hd} {mem gs : List Int} (ok : PgOk m n k xs zz) (h : PrgAt M z s m n k xs) (hp : M[p]? = some (.lst (mem.map D.int))) (hq : M[q]? = some (.lst (gs.map D.int))) (hn : (mem.length : Int) = n) (hk : (gs.length : Int) = k) (hmem : ∀ v ∈ mem, 0 ≤ v ∧ v < m) (hgs : ∀ v ∈ gs, 0 ≤ v ∧ v < m) (hc : 0 ≤ c ∧ c < n) :
    Wp (m_shows [.ref z, .int t, .tup [.str "spoilt", .ref q, .ref p, .int c]] M) (okQ fun d M1 => d = .bl (decide (c ≠ t ∧ cg (ran m gs mem xs) c ≠ cg mem c)) ∧ ∃ X, M1 = M ++ X) := by
  have hm := ok.hm
  have hri := ran_inv (gs := gs) (show 0 < m by omega) xs mem hmem
  refine wp_mir rfl ?_
  unfold g_shows
  walk_at "ds"
  refine wp_if2 (c := True) ?_ (fun _ => ?_) (fun h => (h trivial).elim)
  · walk_at "di"
    exact ⟨_, rfl, by simp⟩
  walk_at "ds"
  refine wp_if2 (c := c = t) ?_ (fun e => ?_) (fun e => ?_)
  · walk_at "di"
    rw [(fldP h.at_).2.1]
    walk_at "di"
    rw [is_number_yes hc]
    walk_at "di"
    exact ⟨_, rfl, decide_eq_true_iff⟩
  · walk_at "ds"
    exact ⟨by simp [e], [], by simp⟩
  walk_at "ds"
  refine (run_go (M1 := M) (M2 := M) ok rfl h rfl h hp hq hn hk hmem hgs).ok ?_
  rintro _ _ ⟨rfl, X, rfl⟩
  walk_at "ds"
  rw [get_here]
  walk_at "ds"
  rw [cg_get (by omega)]
  walk_at "ds"
  rw [show (M ++ O.lst ((ran m gs mem xs).map D.int) :: X)[p]? = _ from get_old hp]
  walk_at "ds"
  rw [cg_get (by omega)]
  walk_at "ds"
  refine ⟨?_, _, rfl⟩
  congr 1
  simp [e]
theorem shows_leaky_ok {m n k zz t : Int} {xs : List Sp_} {z s p q p2 : Nat} {M : Hd} {mem mem2 gs : List Int} (ok : PgOk m n k xs zz) (h : PrgAt M z s m n k xs) (hp : M[p]? = some (.lst (mem.map D.int))) (hp2 : M[p2]? = some (.lst (mem2.map D.int))) (hq : M[q]? = some (.lst (gs.map D.int))) (hn : (mem.length : Int) = n) (hn2 : (mem2.length : Int) = n) (hk : (gs.length : Int) = k) (hmem : ∀ v ∈ mem, 0 ≤ v ∧ v < m) (hmem2 : ∀ v ∈ mem2, 0 ≤ v ∧ v < m) (hgs : ∀ v ∈ gs, 0 ≤ v ∧ v < m) (ht : 0 ≤ t ∧ t < n) :
    Wp (m_shows [.ref z, .int t, .tup [.str "leaky", .ref q, .ref p, .ref p2]] M) (okQ fun d M1 => d = .bl (decide ((cg (ran m gs mem xs) t - cg mem t) % m ≠ (cg (ran m gs mem2 xs) t - cg mem2 t) % m)) ∧ ∃ X, M1 = M ++ X) := by
  have hm := ok.hm
  refine wp_mir rfl ?_
  unfold g_shows
  walk_at "ds"
  refine wp_if2 (c := False) ?_ (fun h => h.elim) (fun _ => ?_)
  · walk_at "di"
    exact ⟨_, rfl, by rw [decide_eq_true_iff]; exact iff_of_eq (eq_false (by decide +kernel))⟩
  walk_at "ds"
  refine wp_if2 (c := False) ?_ (fun h => h.elim) (fun _ => ?_)
  · walk_at "di"
    exact ⟨_, rfl, by simp⟩
  walk_at "ds"
  refine (change_ok ok h hp hq hn hk hmem hgs ht).ok ?_
  rintro _ _ ⟨rfl, X, rfl⟩
  walk_at "ds"
  refine (change_ok ok (h.app (X := X)) (get_old hp2) (get_old hq) hn2 hk hmem2 hgs ht).ok ?_
  rintro _ _ ⟨rfl, X2, rfl⟩
  walk_at "ds"
  refine ⟨?_, _, List.append_assoc _ _ _⟩
  congr 1
  simp
theorem refutes_ok {m n k t : Int} {z s : Nat} {w : List D} {b : Bool} {M : Hd} (h : M[z]? = some (progO m n k s)) (ht : 0 ≤ t ∧ t < n) (hw : w.length = 4) (hs : Wp (m_shows [.ref z, .int t, .tup w] M) (okQ fun d M1 => d = .bl b ∧ ∃ X, M1 = M ++ X)) :
    Wp (m_refutes [.ref z, .int t, .tup w] M) (okQ fun d M1 => d = .bl b ∧ ∃ X, M1 = M ++ X) := by
  refine wp_mir rfl ?_
  unfold g_refutes
  walk_at "ds"
  refine wp_if2 (c := False) ?_ (fun h => h.elim) (fun _ => ?_)
  · walk_at "di"
    rw [(fldP h).2.1]
    walk_at "di"
    rw [is_number_yes ht]
    walk_at "di"
    exact ⟨_, rfl, by simp⟩
  walk_at "ds"
  refine wp_if2 (c := False) ?_ (fun h => h.elim) (fun _ => ?_)
  · walk_at "di"
    rw [hw]
    exact ⟨_, rfl, by simp⟩
  walk_at "ds"
  obtain ⟨o, e, q⟩ := hs
  cases o with
  | er c M1 => exact q.elim
  | ok d M1 =>
    obtain ⟨rfl, X, rfl⟩ := q
    refine ⟨(Fl.rt (.bl b), M ++ X), ?_, rfl, X, rfl⟩
    unfold sTry
    simp only [sRet, eCall, aCons, aNil, eVar, List.getElem?_cons_zero, List.getElem?_cons_succ, bnd_ok, e, exB_ok]
/-! ### the law's own sources (three arguments) -/
theorem cs_le {cs : List Int} (h : ∀ c ∈ cs, 1 ≤ c ∧ c ≤ 300) {i : Int} (hi : 0 ≤ i ∧ i < cs.length) : 1 ≤ cg cs i ∧ cg cs i ≤ 300 := by
  have hl : i.toNat < cs.length := by omega
  unfold cg
  rw [List.getD_eq_getElem?_getD, List.getElem?_eq_getElem hl]
  exact h _ (List.getElem_mem hl)
/-! ### needs and meaning, the law's own -/
def inpP : Nd → Option Int
  | .inp i => some (i + 1)
  | _ => none
theorem fold_le' {b : Int} : ∀ (s : List Nd) (a : Int), a ≤ b → (∀ i, Nd.inp i ∈ s → i + 1 ≤ b) → s.foldl stepN a ≤ b
  | [], a, h, _ => h
  | n :: s, a, h, hh => by
    refine fold_le' s _ ?_ fun i hi => hh i (List.mem_cons_of_mem _ hi)
    cases n with
    | inp i =>
      have := hh i List.mem_cons_self
      unfold stepN
      dsimp only
      split <;> omega
    | _ => exact h
theorem max_need (s : List Nd) : maxI (0 :: s.filterMap inpP) = need s := by
  have h1 : need s ≤ maxI (0 :: s.filterMap inpP) := fold_le' s 0 (maxI_le List.mem_cons_self) fun i hi => maxI_le (List.mem_cons_of_mem _ (List.mem_filterMap.mpr ⟨_, hi, rfl⟩))
  have h2 : maxI (0 :: s.filterMap inpP) ≤ need s := by
    rcases List.mem_cons.mp (maxI_mem (xs := 0 :: s.filterMap inpP) (fun z => nomatch z)) with e | e
    · rw [e]
      exact fold_up s 0
    · obtain ⟨n, hn, e⟩ := List.mem_filterMap.mp e
      cases n with
      | inp i =>
        have := need_lt hn
        have e : some (i + 1) = some _ := e
        injection e with e
        omega
      | _ => cases e
  omega
theorem max1_ints {i : Nat} {l : List Int} {M : Hd} (h : M[i]? = some (.lst (l.map D.int))) (hl : l ≠ []) : max1G (.ref i) M = some (.ok (.int (maxI l)) M) := by
  have := mapM_int l
  unfold max1G
  rw [sq_ref h]
  dsimp only
  rw [this]
  cases l with
  | nil => exact absurd rfl hl
  | cons a l => rfl
theorem law_needs_ok {s : List Nd} {M : Hd} (h1 : s.length ≤ 200) : Wp (m__law_needs [.tup (s.map nD)] M) (okQ fun d M1 => d = .int (need s) ∧ ∃ X, M1 = M ++ X) := by
  refine wp_mir rfl ?_
  unfold g__law_needs
  have hst : startD N__law_needs.length [.tup (s.map nD)] = [some (.tup (s.map nD)), none] := rfl
  rw [hst]
  have hlc : Wp (eLc (seqI (eVar 0)) (.nm 1) (tVal (eOp eqG (eOp ixG (eVar 1) (eC (.int 0))) (eC (.str "input")))) (eOp addG (eOp ixG (eVar 1) (eC (.int 1))) (eC (.int 1))) [1] [some (.tup (s.map nD)), none] (M ++ [O.lst [.int 0]])) (okQ fun d M1 => d = .ref (M ++ [O.lst [.int 0]]).length ∧ ∃ Z, M1 = M ++ [O.lst [.int 0]] ++ .lst ((s.filterMap inpP).map D.int) :: Z) := by
    generalize M ++ [O.lst [.int 0]] = M
    refine wp_eLc ?_
    simp only [seqI, eVar, List.getElem?_cons_zero, bnd_ok]
    rw [wp_some]
    dsimp only
    refine wp_lcL (fun i M1 => ∃ Z, M1 = M ++ .lst (((s.take i).filterMap inpP).map D.int) :: Z) ?_ ?_ ?_
    · rintro i d M1 hd ⟨Z, rfl⟩
      rw [List.getElem?_map] at hd
      obtain ⟨n, hn, rfl⟩ := Option.map_eq_some_iff.mp hd
      have htk : s.take (i + 1) = s.take i ++ [n] := by
        rw [List.take_succ, hn]
        rfl
      refine ⟨by simp, _, rfl, ?_⟩
      rw [htk, List.filterMap_append]
      have hll : ((s.take i).filterMap inpP).length ≤ 200 := Nat.le_trans (List.length_filterMap_le _ _) (by rw [List.length_take]; omega)
      cases n with
      | inp c =>
        unfold nD
        walk_at "sx"
        refine ⟨(fun h => nomatch h), fun _ => ?_⟩
        walk_at "sx"
        refine ⟨_, get_here, by rw [List.length_map]; omega, Z, ?_⟩
        rw [set_here, List.map_append]
        rfl
      | const c => unfold nD; walk_at "sx"; exact ⟨fun _ => ⟨Z, by simp [inpP]⟩, fun h => nomatch h⟩
      | scaled c j => unfold nD; walk_at "sx"; exact ⟨fun _ => ⟨Z, by simp [inpP]⟩, fun h => nomatch h⟩
      | sum j k => unfold nD; walk_at "sx"; exact ⟨fun _ => ⟨Z, by simp [inpP]⟩, fun h => nomatch h⟩
      | prod j k => unfold nD; walk_at "sx"; exact ⟨fun _ => ⟨Z, by simp [inpP]⟩, fun h => nomatch h⟩
      | choose j k l => unfold nD; walk_at "sx"; exact ⟨fun _ => ⟨Z, by simp [inpP]⟩, fun h => nomatch h⟩
    · rintro M1 ⟨Z, rfl⟩
      rw [List.length_map, List.take_length]
      exact ⟨by simp, rfl, Z, rfl⟩
    · exact ⟨[], by simp⟩
  walk_at "ds"
  refine hlc.ok ?_
  rintro _ _ ⟨rfl, Z, rfl⟩
  walk_at "ds"
  rw [add_ref (get_old get_here) get_here (by have := List.length_filterMap_le inpP s; simp; omega)]
  walk_at "ds"
  rw [show D.int 0 :: (s.filterMap inpP).map D.int = (0 :: s.filterMap inpP).map D.int from rfl]
  rw [max1_ints (l := 0 :: s.filterMap inpP) get_here (by simp), max_need]
  walk_at "ds"
  exact ⟨_, ap3⟩
theorem meaning_of {s : List Nd} {m : Int} {M : Hd} {q : Nat} {gs vs : List Int} {v : Int} (h1 : s.length ≤ 200) (h : NsOk s) (hm : 2 ≤ m ∧ m ≤ 1000000000) (hg : M[q]? = some (.lst (gs.map D.int))) (hl : need s ≤ gs.length) (hgs : ∀ v ∈ gs, 0 ≤ v ∧ v < m) (hv : vals m gs s = vs ++ [v]) :
    Wp (m__law_meaning [.tup (s.map nD), .int m, .ref q] M) (okQ fun d M1 => d = .int v ∧ ∃ X, M1 = M ++ X) := by
  refine wp_mir rfl ?_
  unfold g__law_meaning
  walk_at "ds"
  refine wp_forL (fun i r M1 => ∃ (a b : Option D), r = [some (.tup (s.map nD)), some (.int m), some (.ref q), some (.ref M.length), a, b] ∧ M1 = M ++ [.lst ((vals m gs (s.take i)).map D.int)]) ?_ ?_ ?_
  · rintro i d r M1 hd ⟨a, b, rfl, rfl⟩
    rw [List.getElem?_map] at hd
    obtain ⟨n, hn, rfl⟩ := Option.map_eq_some_iff.mp hd
    have hi : i < s.length := (List.getElem?_eq_some_iff.mp hn).1
    have ok := h i n hn
    have hvl := vals_len_take (m := m) (gs := gs) s i (by omega)
    have hvi := vals_in (gs := gs) (s := s) (show 0 < m by omega) i (by omega)
    have hin : ∀ k, n = .inp k → 0 ≤ k ∧ k < gs.length := fun k e => by
      subst e
      have := need_lt (List.mem_of_getElem? hn)
      exact ⟨(h.inp (List.mem_of_getElem? hn)).1, by omega⟩
    rw [vals_take hn]
    generalize vals m gs (s.take i) = us at hvl hvi ⊢
    have hc := cg_in (show 0 < m by omega) hvi
    have g1 : (M ++ [O.lst (us.map D.int)])[M.length]? = some (.lst (us.map D.int)) := get_here
    have g2 : (M ++ [O.lst (us.map D.int)])[q]? = some (.lst (gs.map D.int)) := get_old hg
    have hlt : (us.map D.int).length < 16777216 := by rw [List.length_map]; omega
    refine ⟨by simp, _, rfl, ?_⟩
    rw [List.map_append, List.map_singleton]
    cases n with
    | const c =>
      unfold nD
      walk_at "sx"
      rw [modG_ok (by omega)]
      walk_at "sx"
      rw [if_pos hlt]
      walk_at "sx"
      exact ⟨_, _, rfl, rfl⟩
    | inp k =>
      unfold nD
      walk_at "sx"
      rw [g2]
      walk_at "sx"
      rw [atI_cs (hin k rfl)]
      walk_at "sx"
      rw [if_pos hlt]
      walk_at "sx"
      have := cg_in (show 0 < m by omega) hgs k
      refine ⟨_, _, rfl, ?_⟩
      unfold valN
      dsimp only
      rw [Int.emod_eq_of_lt this.1 this.2]
    | sum j k =>
      simp only [NOk] at ok
      unfold nD
      walk_at "sx"
      rw [atI_cs (by omega)]
      walk_at "sx"
      rw [atI_cs (by omega)]
      walk_at "sx"
      rw [modG_ok (by omega)]
      walk_at "sx"
      rw [if_pos hlt]
      walk_at "sx"
      exact ⟨_, _, rfl, rfl⟩
    | prod j k =>
      simp only [NOk] at ok
      have := hc j
      unfold nD
      walk_at "sx"
      rw [atI_cs (by omega)]
      walk_at "sx"
      rw [atI_cs (by omega)]
      walk_at "sx"
      rw [mulG_l (by omega)]
      walk_at "sx"
      rw [modG_ok (by omega)]
      walk_at "sx"
      rw [if_pos hlt]
      walk_at "sx"
      exact ⟨_, _, rfl, rfl⟩
    | scaled c j =>
      simp only [NOk] at ok
      unfold nD
      walk_at "sx"
      rw [atI_cs (by omega)]
      walk_at "sx"
      rw [mulG_l (by omega)]
      walk_at "sx"
      rw [modG_ok (by omega)]
      walk_at "sx"
      rw [if_pos hlt]
      walk_at "sx"
      exact ⟨_, _, rfl, rfl⟩
    | choose j k l =>
      simp only [NOk] at ok
      have := hc j
      unfold nD
      walk_at "sx"
      rw [atI_cs (by omega)]
      walk_at "sx"
      rw [atI_cs (by omega)]
      walk_at "sx"
      rw [atI_cs (by omega)]
      walk_at "sx"
      rw [mulG_l (by omega)]
      walk_at "sx"
      try rw [atI_cs (by omega)]
      walk_at "sx"
      rw [mulG_l (by omega)]
      walk_at "sx"
      rw [modG_ok (by omega)]
      walk_at "sx"
      rw [if_pos hlt]
      walk_at "sx"
      exact ⟨_, _, rfl, rfl⟩
  · rintro r M1 ⟨a, b, rfl, rfl⟩
    rw [List.length_map, List.take_length]
    refine ⟨by simp, ?_⟩
    have hlen : (vals m gs s).length = (vs ++ [v]).length := by rw [hv]
    walk_at "ds"
    rw [hv, List.map_append, List.map_singleton]
    walk_at "ds"
    rw [atI_len1]
    walk_at "ds"
    exact ⟨_, rfl⟩
  · exact ⟨none, none, rfl, rfl⟩
/-! ### all points, in lexicographic order -/
def dig (p : Nat) : Nat → Nat → List Int
  | 0, _ => []
  | N + 1, i => dig p N (i / p) ++ [((i % p : Nat) : Int)]
theorem dig_len {p : Nat} : ∀ {N i : Nat}, (dig p N i).length = N
  | 0, _ => rfl
  | N + 1, i => by unfold dig; rw [List.length_append, dig_len]; rfl
theorem dig_in {p : Nat} (hp : 0 < p) : ∀ {N i : Nat}, ∀ v ∈ dig p N i, 0 ≤ v ∧ v < (p : Int)
  | 0, _ => fun v h => nomatch h
  | N + 1, i => by
    intro v h
    unfold dig at h
    rcases List.mem_append.mp h with h | h
    · exact dig_in hp v h
    · rw [List.mem_singleton] at h
      subst h
      have := Nat.mod_lt i hp
      omega
def pts (p N : Nat) : List (List Int) := (List.range (p ^ N)).map (dig p N)
theorem pts_len {p N : Nat} : (pts p N).length = p ^ N := by unfold pts; rw [List.length_map, List.length_range]
theorem pts_get {p N i : Nat} (h : i < p ^ N) : (pts p N)[i]? = some (dig p N i) := by
  unfold pts
  rw [List.getElem?_map, List.getElem?_range h]
  rfl
theorem pts_at {p N i : Nat} {pt : List Int} (h : (pts p N)[i]? = some pt) : i < p ^ N ∧ pt = dig p N i := by
  have h1 : i < p ^ N := by
    have := (List.getElem?_eq_some_iff.mp h).1
    rwa [pts_len] at this
  rw [pts_get h1] at h
  exact ⟨h1, (Option.some.inj h).symm⟩
theorem pts_mem {p N : Nat} {pt : List Int} (h : pt ∈ pts p N) : ∃ i, i < p ^ N ∧ pt = dig p N i := by
  unfold pts at h
  obtain ⟨i, hi, rfl⟩ := List.mem_map.mp h
  exact ⟨i, List.mem_range.mp hi, rfl⟩
theorem dig_step {p N i j : Nat} (hj : j < p) : dig p (N + 1) (i * p + j) = dig p N i ++ [(j : Int)] := by
  have hp : 0 < p := by omega
  show dig p N ((i * p + j) / p) ++ [(((i * p + j) % p : Nat) : Int)] = _
  rw [Nat.add_comm, Nat.add_mul_div_right _ _ hp, Nat.add_mul_mod_self_right, Nat.div_eq_of_lt hj, Nat.mod_eq_of_lt hj, Nat.zero_add]
theorem idx_lt {p N i j : Nat} (hi : i < p ^ N) (hj : j < p) : i * p + j < p ^ (N + 1) := by
  rw [Nat.pow_succ]
  calc i * p + j < i * p + p := by omega
    _ = (i + 1) * p := by rw [Nat.add_mul, Nat.one_mul]
    _ ≤ p ^ N * p := Nat.mul_le_mul_right _ hi
theorem pts_take {p N i j : Nat} (hi : i < p ^ N) (hj : j < p) : (pts p (N + 1)).take (i * p + j + 1) = (pts p (N + 1)).take (i * p + j) ++ [dig p N i ++ [(j : Int)]] := by
  rw [List.take_add_one, pts_get (idx_lt hi hj), dig_step hj]
  rfl
theorem dig_zero {p k : Nat} (hp : 0 < p) : ∀ (n i : Nat), ∃ j, j ≤ i ∧ dig p (k + n) j = (dig p (k + n) i).take k ++ List.replicate n 0
  | 0, i => ⟨i, Nat.le_refl _, by rw [List.take_of_length_le (by rw [dig_len]; omega)]; simp⟩
  | n + 1, i => by
    obtain ⟨j, hj, e⟩ := dig_zero hp n (i / p)
    refine ⟨j * p + 0, ?_, ?_⟩
    · calc j * p + 0 ≤ i / p * p := by rw [Nat.add_zero]; exact Nat.mul_le_mul_right _ hj
        _ ≤ i := Nat.div_mul_le_self i p
    · show dig p (k + n + 1) (j * p + 0) = (dig p (k + n) (i / p) ++ [((i % p : Nat) : Int)]).take k ++ _
      rw [dig_step hp, e, List.take_append_of_le_length (by rw [dig_len]; omega), List.replicate_succ', List.append_assoc]
      rfl
theorem dig_surj {p : Nat} : ∀ {N : Nat} {pt : List Int}, pt.length = N → (∀ v ∈ pt, 0 ≤ v ∧ v < (p : Int)) → ∃ i, i < p ^ N ∧ dig p N i = pt
  | 0, pt, h, _ => by
    have : pt = [] := List.eq_nil_of_length_eq_zero h
    subst this
    exact ⟨0, by simp, rfl⟩
  | N + 1, pt, h, hv => by
    have hne : pt ≠ [] := by intro e; subst e; simp at h
    have e := List.dropLast_concat_getLast hne
    obtain ⟨i, hi, hd⟩ := dig_surj (p := p) (N := N) (pt := pt.dropLast) (by simp [h]) (fun v hm => hv v (List.dropLast_subset _ hm))
    have hl := hv _ (List.getLast_mem hne)
    refine ⟨i * p + (pt.getLast hne).toNat, idx_lt hi (by omega), ?_⟩
    rw [dig_step (by omega), hd]
    have : (((pt.getLast hne).toNat : Nat) : Int) = pt.getLast hne := by omega
    rw [this, e]
/-! ### the first of which something is told -/
theorem fs_hit {α β : Type} {f : α → Option β} {l : List α} {i : Nat} {x : α} {w : β} (h : (l.take i).findSome? f = none) (hx : l[i]? = some x) (e : f x = some w) : l.findSome? f = some w := by
  have hlt := (List.getElem?_eq_some_iff.mp hx).1
  have e1 : l = l.take i ++ x :: l.drop (i + 1) := by
    have := (List.take_append_drop i l).symm
    rw [List.drop_eq_getElem_cons hlt, (List.getElem?_eq_some_iff.mp hx).2] at this
    exact this
  rw [e1, List.findSome?_append, h, List.findSome?_cons, e]
  rfl
theorem fs_miss {α β : Type} {f : α → Option β} {l : List α} {i : Nat} {x : α} (h : (l.take i).findSome? f = none) (hx : l[i]? = some x) (e : f x = none) : (l.take (i + 1)).findSome? f = none := by
  rw [List.take_add_one, hx, List.findSome?_append, h]
  simp [e]
theorem fs_none {α β : Type} {f : α → Option β} {l : List α} : l.findSome? f = none ↔ ∀ x ∈ l, f x = none := by
  rw [List.findSome?_eq_none_iff]
/-! ### inputs and cells in one row -/
def plc (k : Int) : Fc → Int
  | .cell i => k + i
  | .inp i => i
def adF (m k : Int) (st : List Int) (c : Int) (fs : List Fc) : Int := fs.foldl (fun a y => a * cg st (plc k y) % m) c
def doF (m k : Int) (st : List Int) : Sp_ → List Int
  | .add t c fs => st.set (k + t).toNat ((cg st (k + t) + adF m k st c fs) % m)
  | .scale t u => st.set (k + t).toNat (cg st (k + t) * u % m)
  | .swap a b => (st.set (k + a).toNat (cg st (k + b))).set (k + b).toNat (cg st (k + a))
  | .table t s c f a b => st
def runS (m k : Int) (xs : List Sp_) (st : List Int) : List Int := xs.foldl (doF m k) st
theorem cg_hi {gs mem : List Int} {k i : Int} (hk : (gs.length : Int) = k) (hi : 0 ≤ i) : cg (gs ++ mem) (k + i) = cg mem i := by
  unfold cg
  rw [show (k + i).toNat = gs.length + i.toNat by omega, List.getD_eq_getElem?_getD, List.getD_eq_getElem?_getD, List.getElem?_append_right (by omega), Nat.add_sub_cancel_left]
theorem cg_lo {gs mem : List Int} {k i : Int} (hk : (gs.length : Int) = k) (h0 : 0 ≤ i) (hi : i < k) : cg (gs ++ mem) i = cg gs i := by
  unfold cg
  rw [List.getD_eq_getElem?_getD, List.getD_eq_getElem?_getD, List.getElem?_append_left (by omega)]
theorem set_hi {gs mem : List Int} {k i v : Int} (hk : (gs.length : Int) = k) (hi : 0 ≤ i) : (gs ++ mem).set (k + i).toNat v = gs ++ mem.set i.toNat v := by
  rw [show (k + i).toNat = gs.length + i.toNat by omega, List.set_append_right _ _ (by omega), Nat.add_sub_cancel_left]
theorem adF_eq {m k t n : Int} {gs mem : List Int} (hk : (gs.length : Int) = k) : ∀ (fs : List Fc) (c : Int), (∀ x ∈ fs, FcOk t n k x) → adF m k (gs ++ mem) c fs = addV m mem gs c fs
  | [], c, _ => rfl
  | x :: fs, c, h => by
    have hx := h x List.mem_cons_self
    show adF m k (gs ++ mem) (c * cg (gs ++ mem) (plc k x) % m) fs = addV m mem gs (c * facV mem gs x % m) fs
    rw [adF_eq hk fs _ fun y hy => h y (List.mem_cons_of_mem _ hy)]
    congr 3
    cases x with
    | cell i => exact cg_hi hk hx.1.1
    | inp i => exact cg_lo hk hx.1 hx.2
theorem doF_eq {m k n : Int} {gs mem : List Int} {x : Sp_} (hk : (gs.length : Int) = k) (hx : SpOk m n k x) (hT : x.isT = false) : doF m k (gs ++ mem) x = gs ++ doS m gs mem x := by
  cases x with
  | add t c fs =>
    obtain ⟨ht, _, _, hf⟩ := hx
    simp only [doF, doS]
    rw [cg_hi hk ht.1, set_hi hk ht.1, adF_eq hk fs c hf]
  | scale t u =>
    obtain ⟨ht, _, _⟩ := hx
    simp only [doF, doS]
    rw [cg_hi hk ht.1, set_hi hk ht.1]
  | swap a b =>
    obtain ⟨ha, hb, _⟩ := hx
    simp only [doF, doS]
    rw [cg_hi hk ha.1, cg_hi hk hb.1, set_hi hk ha.1, set_hi hk hb.1]
  | table t s c f a b => cases hT
theorem runS_eq {m k n : Int} {gs : List Int} (hk : (gs.length : Int) = k) : ∀ (xs : List Sp_) (mem : List Int), (∀ x ∈ xs, SpOk m n k x) → (∀ x ∈ xs, x.isT = false) → runS m k xs (gs ++ mem) = gs ++ ran m gs mem xs
  | [], mem, _, _ => rfl
  | x :: xs, mem, h, hT => by
    show runS m k xs (doF m k (gs ++ mem) x) = gs ++ ran m gs (doS m gs mem x) xs
    rw [doF_eq hk (h x List.mem_cons_self) (hT x List.mem_cons_self), runS_eq hk xs _ (fun y hy => h y (List.mem_cons_of_mem _ hy)) (fun y hy => hT y (List.mem_cons_of_mem _ hy))]
theorem doF_len {m k : Int} {st : List Int} {x : Sp_} : (doF m k st x).length = st.length := by
  cases x <;> unfold doF <;> simp
theorem runS_take {m k : Int} {st : List Int} {xs : List Sp_} {i : Nat} {x : Sp_} (h : xs[i]? = some x) : runS m k (xs.take (i + 1)) st = doF m k (runS m k (xs.take i) st) x := by
  unfold runS
  rw [List.take_add_one, h, List.foldl_append]
  rfl
/-! ### what the judge is due to say -/
inductive Wit where
  | sp (gs mem : List Int) (c : Int) | lk (gs mem : List Int)
/-- the first cell that a run changes, but for the target -/
def badC (n : Nat) (t : Int) (mem aft : List Int) : Option Int := ((List.range n).map fun (c : Nat) => (c : Int)).findSome? fun c => if c ≠ t ∧ cg aft c ≠ cg mem c then some c else none
def spW (m t : Int) (k n : Nat) (xs : List Sp_) (pt : List Int) : Option Wit := (badC n t (pt.drop k) (ran m (pt.take k) (pt.drop k) xs)).map (.sp (pt.take k) (pt.drop k))
def chg (m t : Int) (xs : List Sp_) (gs mem : List Int) : Int := (cg (ran m gs mem xs) t - cg mem t) % m
def lkW (m t : Int) (k n : Nat) (xs : List Sp_) (pt : List Int) : Option Wit := if chg m t xs (pt.take k) (pt.drop k) ≠ chg m t xs (pt.take k) (List.replicate n 0) then some (.lk (pt.take k) (pt.drop k)) else none
def fstSp (p : Nat) (t : Int) (k n : Nat) (xs : List Sp_) : Option Wit := (pts p (k + n)).findSome? (spW p t k n xs)
def fstLk (p : Nat) (t : Int) (k n : Nat) (xs : List Sp_) : Option Wit := (pts p (k + n)).findSome? (lkW p t k n xs)
def verd (p : Nat) (t : Int) (k n : Nat) (xs : List Sp_) : Option Wit := match fstSp p t k n xs with
  | some w => some w
  | none => fstLk p t k n xs
theorem badC_none {n : Nat} {t : Int} {mem aft : List Int} : badC n t mem aft = none ↔ ∀ c : Int, 0 ≤ c → c < n → c ≠ t → cg aft c = cg mem c := by
  unfold badC
  rw [List.findSome?_eq_none_iff]
  constructor
  · intro h c h0 h1 h2
    have := h c (List.mem_map.mpr ⟨c.toNat, List.mem_range.mpr (by omega), by omega⟩)
    split at this
    · cases this
    · rename_i hn
      exact Classical.byContradiction fun q => hn ⟨h2, q⟩
  · intro h c hc
    obtain ⟨i, hi, rfl⟩ := List.mem_map.mp hc
    have hi := List.mem_range.mp hi
    rw [if_neg]
    rintro ⟨h1, h2⟩
    exact h2 (h _ (by omega) (by omega) h1)
/-! ### two fors in a comprehension -/
theorem wp_lcL2 {gs : Gd} {n : Nat} {t : Tg} {c : TF} {it1 : IF} {t1 : Tg} {c1 : TF} {f : EF} {own1 : List Nat} {r : Ev} {Q : Hd → Prop} {ds : List D} (P : Nat → Hd → Prop)
    (hs : ∀ i d M, ds[i]? = some d → P i M → Still gs M ∧ ∃ r1, t.put d r = some r1 ∧ ∃ M1, c r1 M = some (.ok true M1) ∧ ∃ p M2, it1 r1 M1 = some (.ok p M2) ∧ Wp (lcL p.2 n t1 c1 f (wip r1 own1) p.1 M2) (P (i + 1)))
    (hd : ∀ M, P ds.length M → Still gs M ∧ Q M) {M : Hd} (h0 : P 0 M) : Wp (lcL2 gs n t c it1 t1 c1 f own1 r ds M) Q := by
  have key : ∀ k i M, ds.length - i = k → i ≤ ds.length → P i M → Wp (lcL2 gs n t c it1 t1 c1 f own1 r (ds.drop i) M) Q := by
    intro k
    induction k with
    | zero =>
      intro i M hn hi p
      have : i = ds.length := by omega
      subst this
      obtain ⟨a, b⟩ := hd M p
      rw [List.drop_length]
      unfold lcL2
      rw [if_pos a]
      exact wp_some.mpr b
    | succ k ih =>
      intro i M hn hi p
      have hlt : i < ds.length := by omega
      have hdr : ds.drop i = ds[i] :: ds.drop (i + 1) := List.drop_eq_getElem_cons hlt
      obtain ⟨a, r1, e, M1, e1, q, M2, e2, M3, e3, h3⟩ := hs i ds[i] M (List.getElem?_eq_getElem hlt) p
      rw [hdr]
      unfold lcL2
      rw [if_pos a, e]
      dsimp only
      rw [e1]
      dsimp only
      rw [e2]
      dsimp only
      rw [e3]
      exact ih (i + 1) M3 (by omega) hlt h3
  exact key ds.length 0 M (by omega) (Nat.zero_le _) h0
theorem wp_eLc2 {it : IF} {t : Tg} {c : TF} {it1 : IF} {t1 : Tg} {c1 : TF} {f : EF} {own own1 : List Nat} {r : Ev} {M M1 : Hd} {ds : List D} {gs : Gd} {Q : Rs D → Prop} (e : it r M = some (.ok (ds, gs) M1)) (h : Wp (lcL2 gs M1.length t c it1 t1 c1 f own1 (wip r own) ds (M1 ++ [.lst []])) fun M2 => Q (.ok (.ref M1.length) M2)) : Wp (eLc2 it t c it1 t1 c1 f own own1 r M) Q := by
  unfold eLc2
  rw [e, bnd_ok]
  obtain ⟨M2, e, q⟩ := h
  dsimp only
  rw [e]
  exact wp_some.mpr q
/-! ### all points, by the program -/
theorem tup_get {ls : List (List Int)} {i : Nat} {d : D} (h : (ls.map tupI)[i]? = some d) : ∃ l, ls[i]? = some l ∧ d = .tup (l.map D.int) := by
  rw [List.getElem?_map] at h
  obtain ⟨l, h1, rfl⟩ := Option.map_eq_some_iff.mp h
  exact ⟨l, h1, rfl⟩
theorem put_here {M Z : Hd} {a : List D} {d : D} (h : a.length < 16777216) : ∃ acc, (M ++ .lst a :: Z)[M.length]? = some (.lst acc) ∧ acc.length < 16777216 ∧ (M ++ .lst a :: Z).set M.length (.lst (acc ++ [d])) = M ++ .lst (a ++ [d]) :: Z := ⟨a, get_here, h, set_here⟩
theorem points_of_ok {p N : Nat} {M : Hd} (hp : 2 ≤ p) (hp2 : p < 1000000) (hN : N ≤ 1000) (hb : p ^ N ≤ 1000000) : Wp (m_points_of [.int p, .int N] M) (okQ fun d M1 => ∃ q X, d = .ref q ∧ M1 = M ++ X ∧ M1[q]? = some (.lst ((pts p N).map tupI))) := by
  refine wp_mir rfl ?_
  unfold g_points_of
  walk_at "ds"
  rw [if_smP (by omega)]
  refine wp_forL (fun i r M1 => ∃ (q : Nat) (X : Hd) (a3 : Option D), r = [some (.int p), some (.int N), some (.ref q), a3, none, none] ∧ M1 = M ++ X ∧ M1[q]? = some (.lst ((pts p i).map tupI))) ?_ ?_ ?_
  · rintro i d r M1 hd ⟨q, X, a3, rfl, rfl, hq⟩
    obtain ⟨hi, rfl⟩ := ints_get hd
    refine ⟨by simp, _, rfl, ?_⟩
    have hpi : p ^ i ≤ 1000000 := Nat.le_trans (Nat.pow_le_pow_right (by omega) (by omega)) hb
    have hpi1 : p ^ (i + 1) ≤ 1000000 := Nat.le_trans (Nat.pow_le_pow_right (by omega) (by omega)) hb
    obtain ⟨M1, hM1⟩ : ∃ M1, M1 = M ++ X := ⟨_, rfl⟩
    rw [← hM1] at hq ⊢
    unfold sAsg
    rw [wp_exB]
    refine wp_eLc2 (seq_ref (M := M1) (i := q) (ds := (pts p i).map tupI) rfl hq) ?_
    refine wp_lcL2 (fun j M2 => ∃ Z, M2 = M1 ++ .lst (((pts p (i + 1)).take (j * p)).map tupI) :: Z) ?_ ?_ ?_
    · rintro j d M2 hd ⟨Z, rfl⟩
      obtain ⟨l, hl, rfl⟩ := tup_get hd
      obtain ⟨hj, rfl⟩ := pts_at hl
      refine ⟨by simp only [still_one, still_nil, and_true]; exact get_old hq, _, rfl, _, rfl, (intsD 0 p, []), M1 ++ .lst (((pts p (i + 1)).take (j * p)).map tupI) :: Z, ?_, ?_⟩
      · unfold rng1
        simp only [eVar, wip, List.set_cons_succ, List.set_cons_zero, List.getElem?_cons_zero, bnd_ok]
        exact if_sm (by omega)
      · refine wp_lcL (fun s M2 => ∃ Z, M2 = M1 ++ .lst (((pts p (i + 1)).take (j * p + s)).map tupI) :: Z) ?_ ?_ ?_
        · rintro s d M2 hd ⟨Z, rfl⟩
          obtain ⟨hs, rfl⟩ := ints_get hd
          refine ⟨by simp, _, rfl, ?_⟩
          walk_at "ds"
          refine ⟨(fun h => nomatch h), fun _ => ?_⟩
          unfold addG
          dsimp only
          rw [if_pos (by rw [List.length_map, dig_len]; simp; omega), wp_some]
          dsimp only
          obtain ⟨acc, h1, h2, h3⟩ := put_here (M := M1) (Z := Z) (a := ((pts p (i + 1)).take (j * p + s)).map tupI) (d := D.tup ((dig p i j).map D.int ++ [D.int (0 + (s : Int))])) (by rw [List.length_map, List.length_take, pts_len]; omega)
          refine ⟨acc, h1, h2, Z, ?_⟩
          rw [h3, ← Nat.add_assoc, pts_take hj hs, List.map_append]
          unfold tupI
          rw [Int.zero_add, List.map_cons, List.map_append]
          rfl
        · rintro M2 ⟨Z, rfl⟩
          refine ⟨by simp, Z, ?_⟩
          rw [ints_length, Nat.add_mul, Nat.one_mul]
        · exact ⟨Z, rfl⟩
    · rintro M2 ⟨Z, rfl⟩
      refine ⟨by simp only [still_one, still_nil, and_true]; exact get_old hq, ?_⟩
      rw [List.length_map, pts_len, ← Nat.pow_succ, List.take_of_length_le (by rw [pts_len]; exact Nat.le_refl _)]
      walk_at "ds"
      refine ⟨_, X ++ .lst ((pts p (i + 1)).map tupI) :: Z, _, rfl, ?_, get_here⟩
      rw [hM1, List.append_assoc]
    · exact ⟨[], by simp⟩
  · rintro r M1 ⟨q, X, a3, rfl, rfl, hq⟩
    refine ⟨by simp, ?_⟩
    rw [ints_length, Int.toNat_natCast] at hq
    walk_at "ds"
    exact ⟨q, X, rfl, rfl, hq⟩
  · exact ⟨_, [.lst [.tup []]], _, rfl, rfl, get_here⟩
/-! ### columns -/
theorem wp_all {M0 M : Hd} {r : Ev} {it : IF} {ds ws : List D} {gs : Gd} {t : Tg} {f : EF} {own : List Nat} (hit : it r M0 = some (.ok (ds, gs) M)) (hgs : ∀ X, Still gs (M ++ X)) (hlen : ds.length < 16777216) (hw : ws.length = ds.length)
    (hf : ∀ (i : Nat) (d w : D), ds[i]? = some d → ws[i]? = some w → ∀ X, ∃ r1, t.put d (wip r own) = some r1 ∧ f r1 (M ++ X) = some (.ok w (M ++ X))) :
    eLc it t tYes f own r M0 = some (.ok (.ref M.length) (M ++ [.lst ws])) := by
  have key : Wp (eLc it t tYes f own r M0) fun o => o = .ok (.ref M.length) (M ++ [.lst ws]) := by
    refine wp_eLc ?_
    rw [hit, wp_some]
    dsimp only
    refine wp_lcL (fun i M1 => M1 = M ++ [.lst (ws.take i)]) ?_ ?_ ?_
    · rintro i d M1 hd rfl
      have hi : i < ds.length := (List.getElem?_eq_some_iff.mp hd).1
      have hwi : ws[i]? = some ws[i] := List.getElem?_eq_getElem (by omega)
      obtain ⟨r1, e1, h1⟩ := hf i d _ hd hwi [.lst (ws.take i)]
      refine ⟨hgs _, r1, e1, ?_⟩
      unfold tYes
      rw [wp_some]
      refine ⟨(fun h => nomatch h), fun _ => ?_⟩
      rw [h1, wp_some]
      refine ⟨ws.take i, get_here, by rw [List.length_take]; omega, ?_⟩
      rw [set_here, List.take_add_one, hwi]
      rfl
    · rintro M1 rfl
      refine ⟨hgs _, ?_⟩
      rw [← hw, List.take_length]
    · rfl
  obtain ⟨o, e, rfl⟩ := key
  exact e
theorem column_of_ok {M : Hd} {q : Nat} {ls : List (List Int)} {c : Int} (hq : M[q]? = some (.lst (ls.map tupI))) (hl : ls.length < 16777216) (hc : ∀ l ∈ ls, 0 ≤ c ∧ c < l.length) : m_column_of [.ref q, .int c] M = some (.ok (.ref M.length) (M ++ [.lst (ls.map fun l => D.int (cg l c))])) := by
  have key : Wp (m_column_of [.ref q, .int c] M) fun o => o = .ok (.ref M.length) (M ++ [.lst (ls.map fun l => D.int (cg l c))]) := by
    refine wp_mir rfl ?_
    unfold g_column_of
    walk_at "ds"
    have hh : ∀ (i : Nat) (d w : D), (ls.map tupI)[i]? = some d → (ls.map fun l => D.int (cg l c))[i]? = some w → ∀ (X : Hd), ∃ r1, (Tg.nm 2).put d (wip [some (D.ref q), some (D.int c), none] [2]) = some r1 ∧ eOp ixG (eVar 2) (eVar 1) r1 (M ++ X) = some (.ok w (M ++ X)) := by
      intro i d w hd hw X
      obtain ⟨l, hi, rfl⟩ := tup_get hd
      rw [List.getElem?_map, hi] at hw
      cases hw
      refine ⟨_, rfl, ?_⟩
      have := hc l (List.mem_of_getElem? hi)
      show ixG (.tup (l.map D.int)) (.int c) (M ++ X) = _
      rw [ixG_tup, atI_cs this]
      rfl
    rw [wp_all (M := M) (ws := ls.map fun l => D.int (cg l c)) (seq_ref (M := M) (i := q) (ds := ls.map tupI) rfl hq) (fun X => still_of hq X) (by rw [List.length_map]; exact hl) (by simp) hh, wp_some]
  obtain ⟨o, e, rfl⟩ := key
  exact e
/-- the columns of the rows ls, N of them -/
structure Cols (M : Hd) (cr : Nat) (cs : List Nat) (ls : List (List Int)) (m : Int) (N : Nat) : Prop where
  at_ : M[cr]? = some (.lst (cs.map D.ref))
  len : cs.length = N
  col : ∀ (j q : Nat), cs[j]? = some q → q ≠ cr ∧ M[q]? = some (.lst (ls.map fun l => D.int (cg l j)))
  row : ∀ l ∈ ls, l.length = N ∧ ∀ v ∈ l, 0 ≤ v ∧ v < m
theorem Cols.app {M X : Hd} {cr N : Nat} {cs : List Nat} {ls : List (List Int)} {m : Int} (h : Cols M cr cs ls m N) : Cols (M ++ X) cr cs ls m N :=
  ⟨get_old h.at_, h.len, fun j q e => ⟨(h.col j q e).1, get_old (h.col j q e).2⟩, h.row⟩
theorem Cols.ix {M : Hd} {cr N : Nat} {cs : List Nat} {ls : List (List Int)} {m : Int} (h : Cols M cr cs ls m N) {c : Int} (h0 : 0 ≤ c) (h1 : c < N) : ∃ q, cs[c.toNat]? = some q ∧ atI (cs.map D.ref) c = some (.ref q) ∧ ixG (.ref cr) (.int c) M = some (.ok (.ref q) M) ∧ q ≠ cr ∧ M[q]? = some (.lst (ls.map fun l => D.int (cg l c))) := by
  have hlt : c.toNat < cs.length := by rw [h.len]; omega
  have ea : atI (cs.map D.ref) c = some (.ref cs[c.toNat]) := atI_nn h0 (by rw [List.getElem?_map, List.getElem?_eq_getElem hlt]; rfl)
  refine ⟨cs[c.toNat], List.getElem?_eq_getElem hlt, ea, ?_, ?_⟩
  · rw [ixG_ref h.at_, ea]
    rfl
  · have := h.col c.toNat _ (List.getElem?_eq_getElem hlt)
    rwa [Int.toNat_of_nonneg h0] at this
theorem adF_in {m k : Int} {st : List Int} (hm : 0 < m) : ∀ (fs : List Fc) (c : Int), 0 ≤ c ∧ c < m → 0 ≤ adF m k st c fs ∧ adF m k st c fs < m
  | [], c, h => h
  | x :: fs, c, h => adF_in hm fs _ (mod_in _ hm)
theorem adF_take {m k : Int} {st : List Int} {c : Int} {fs : List Fc} {i : Nat} {x : Fc} (h : fs[i]? = some x) : adF m k st c (fs.take (i + 1)) = adF m k st c (fs.take i) * cg st (plc k x) % m := by
  unfold adF
  rw [List.take_add_one, h, List.foldl_append]
  rfl
theorem prz_get {A : Type} {f g : A → D} {ls : List A} {i : Nat} {d : D} (h : (pairsD (ls.map f) (ls.map g))[i]? = some d) : ∃ l, ls[i]? = some l ∧ d = .tup [f l, g l] := by
  unfold pairsD at h
  rw [List.zipWith_map, List.zipWith_self, List.getElem?_map] at h
  obtain ⟨l, h1, rfl⟩ := Option.map_eq_some_iff.mp h
  exact ⟨l, h1, rfl⟩
theorem prz_len {A : Type} {f g : A → D} {ls : List A} : (pairsD (ls.map f) (ls.map g)).length = ls.length := by
  unfold pairsD
  simp
theorem zip_ref {fa fb : EF} {r : Ev} {M : Hd} {i j : Nat} {xs ys : List D} (h1 : fa r M = some (.ok (.ref i) M)) (h2 : fb r M = some (.ok (.ref j) M)) (h3 : M[i]? = some (.lst xs)) (h4 : M[j]? = some (.lst ys)) : zip2I fa fb r M = some (.ok (pairsD xs ys, [(i, xs), (j, ys)]) M) := by
  unfold zip2I
  rw [h1, bnd_ok, h2, bnd_ok]
  unfold sqD
  simp only [h3, h4]
  rfl
theorem still_two {M : Hd} {i j : Nat} {xs ys : List D} (h3 : M[i]? = some (.lst xs)) (h4 : M[j]? = some (.lst ys)) (X : Hd) : Still [(i, xs), (j, ys)] (M ++ X) := by
  simp only [still_one, still_nil, and_true]
  exact ⟨get_old h3, get_old h4⟩
theorem added_ok {M : Hd} {z u cr N : Nat} {cs : List Nat} {ls : List (List Int)} {m n k t c : Int} {fs : List Fc} {xs : List Sp_} (ok : SpOk m n k (.add t c fs)) (hm : 2 ≤ m ∧ m ≤ 1000000000) (hk : 0 ≤ k) (hN : (N : Int) = k + n) (hP : PrgAt M z u m n k xs) (hC : Cols M cr cs ls m N) (hl : ls.length < 16777216) :
    Wp (m_added [spd (.add t c fs), .ref cr, .ref z] M) (okQ fun d M1 => ∃ q Z, d = .ref q ∧ M1 = M ++ Z ∧ M.length ≤ q ∧ M1[q]? = some (.lst (ls.map fun l => D.int ((cg l (k + t) + adF m k l c fs) % m)))) := by
  obtain ⟨ht, hc, _, hfs⟩ := ok
  refine wp_mir rfl ?_
  obtain ⟨e1, _, e3, _⟩ := fldP hP.at_
  obtain ⟨qt, ht1, ht2, _, ht3, ht4⟩ := hC.ix (c := k + t) (by omega) (by omega)
  unfold g_added spd
  walk_at "ds"
  rw [e1]
  walk_at "ds"
  rw [e3]
  walk_at "ds"
  rw [hC.at_]
  dsimp only
  rw [ht2]
  walk_at "ds"
  have hlm : (ls.map fun l => D.int (cg l (k + t))).length < 16777216 := by rw [List.length_map]; exact hl
  rw [wp_all (M := M) (ws := ls.map fun l => D.int (adF m k l c (fs.take 0))) (seq_ref (M := M) (i := qt) rfl ht4) (fun X => still_of ht4 X) hlm (by simp) (by
    intro i d w hd hw X
    rw [List.getElem?_map] at hw
    obtain ⟨l, _, rfl⟩ := Option.map_eq_some_iff.mp hw
    exact ⟨_, rfl, rfl⟩)]
  walk_at "ds"
  refine wp_forL (fun i r M1 => ∃ (q : Nat) (Z : Hd) (a6 a7 a8 : Option D), r = [some (spd (.add t c fs)), some (.ref cr), some (.ref z), some (.int m), some (.ref qt), some (.ref q), a6, a7, a8, none, none, none] ∧ M1 = M ++ Z ∧ M1[q]? = some (.lst (ls.map fun l => D.int (adF m k l c (fs.take i))))) ?_ ?_ ?_
  · rintro i d r M1 hd ⟨q, Z, a6, a7, a8, rfl, rfl, hq⟩
    rw [List.getElem?_map] at hd
    obtain ⟨x, hxi, rfl⟩ := Option.map_eq_some_iff.mp hd
    have okx := hfs x (List.mem_of_getElem? hxi)
    have hpl : 0 ≤ plc k x ∧ plc k x < N := by
      cases x with
      | cell i => obtain ⟨h1, _⟩ := okx; simp only [plc]; omega
      | inp i => obtain ⟨h1, h2⟩ := okx; simp only [plc]; omega
    have hC1 := hC.app (X := Z)
    obtain ⟨e1, _, e3, _⟩ := fldP (hP.app (X := Z)).at_
    obtain ⟨qx, hx1, hx2, hx3, hx4, hx5⟩ := hC1.ix hpl.1 hpl.2
    have hrow := hC.row
    obtain ⟨M1, hM1⟩ : ∃ M1, M1 = M ++ Z := ⟨_, rfl⟩
    rw [← hM1] at hq hC1 e1 e3 hx3 hx5 ⊢
    have go : ∀ a6 a7, eLc (zip2I (eVar 5) (eOp ixG (eVar 1) (eVar 8))) (.tp [10, 11]) tYes (eOp modG (eOp mulG (eVar 10) (eVar 11)) (eVar 3)) [10, 11] [some (spd (.add t c fs)), some (.ref cr), some (.ref z), some (.int m), some (.ref qt), some (.ref q), a6, a7, some (.int (plc k x)), none, none, none] M1 = some (.ok (.ref M1.length) (M1 ++ [.lst (ls.map fun l => D.int (adF m k l c (fs.take (i + 1))))])) := by
      intro a6 a7
      refine wp_all (zip_ref (M := M1) (i := q) (j := qx) rfl hx3 hq hx5) (fun X => still_two hq hx5 X) (by rw [prz_len]; exact hl) (by rw [prz_len, List.length_map]) ?_
      intro j d w hd hw X
      obtain ⟨l, hl, rfl⟩ := prz_get hd
      rw [List.getElem?_map, hl] at hw
      cases hw
      refine ⟨_, rfl, ?_⟩
      have hr := hrow l (List.mem_of_getElem? hl)
      have h1 := adF_in (k := k) (st := l) (show 0 < m by omega) (fs.take i) c hc
      have h2 := cg_in (show 0 < m by omega) hr.2 (plc k x)
      show bnd (bnd (some (Rs.ok (D.int (adF m k l c (fs.take i))) (M1 ++ X))) fun x M1 => bnd (some (Rs.ok (D.int (cg l (plc k _))) M1)) fun y M2 => mulG x y M2) (fun x M1 => bnd (some (Rs.ok (D.int m) M1)) fun y M2 => modG x y M2) = _
      simp only [bnd_ok]
      rw [mulG_l (by omega), bnd_ok, modG_ok (by omega), adF_take hxi]
    cases x with
    | cell a =>
      obtain ⟨h1, _⟩ := okx
      refine ⟨by simp, _, rfl, ?_⟩
      simp only [fcD, plc, spd] at go ⊢
      walk_at "sx"
      rw [e3]
      walk_at "sx"
      rw [go]
      walk_at "sx"
      exact ⟨_, _, _, _, _, rfl, by rw [hM1, List.append_assoc], get_here⟩
    | inp a =>
      refine ⟨by simp, _, rfl, ?_⟩
      simp only [fcD, plc, spd] at go ⊢
      walk_at "sx"
      rw [go]
      walk_at "sx"
      exact ⟨_, _, _, _, _, rfl, by rw [hM1, List.append_assoc], get_here⟩
  · rintro r M1 ⟨q, Z, a6, a7, a8, rfl, rfl, hq⟩
    refine ⟨by simp, ?_⟩
    rw [List.length_map, List.take_length] at hq
    obtain ⟨M1, hM1⟩ : ∃ M1, M1 = M ++ Z := ⟨_, rfl⟩
    have h4 := get_old (Z := Z) ht4
    rw [← hM1] at hq h4 ⊢
    have hrow := hC.row
    walk_at "ds"
    have go : eLc (zip2I (eVar 4) (eVar 5)) (.tp [10, 11]) tYes (eOp modG (eOp addG (eVar 10) (eVar 11)) (eVar 3)) [10, 11] [some (spd (.add t c fs)), some (.ref cr), some (.ref z), some (.int m), some (.ref qt), some (.ref q), a6, a7, a8, none, none, none] M1 = some (.ok (.ref M1.length) (M1 ++ [.lst (ls.map fun l => D.int ((cg l (k + t) + adF m k l c fs) % m))])) := by
      refine wp_all (zip_ref (M := M1) (i := qt) (j := q) rfl rfl h4 hq) (fun X => still_two h4 hq X) (by rw [prz_len]; exact hl) (by rw [prz_len, List.length_map]) ?_
      intro j d w hd hw X
      obtain ⟨l, hl, rfl⟩ := prz_get hd
      rw [List.getElem?_map, hl] at hw
      cases hw
      refine ⟨_, rfl, ?_⟩
      show bnd (bnd (some (Rs.ok (D.int (cg l (k + t))) (M1 ++ X))) fun x M1 => bnd (some (Rs.ok (D.int (adF m k l c fs)) M1)) fun y M2 => addG x y M2) (fun x M1 => bnd (some (Rs.ok (D.int m) M1)) fun y M2 => modG x y M2) = _
      simp only [bnd_ok]
      rw [addG_int, bnd_ok, modG_ok (by omega)]
    rw [go]
    walk_at "ds"
    exact ⟨M1.length, Z ++ [.lst (ls.map fun l => D.int ((cg l (k + t) + adF m k l c fs) % m))], rfl, by rw [hM1, List.append_assoc], by rw [hM1, List.length_append]; omega, get_here⟩
  · exact ⟨_, _, none, none, none, rfl, rfl, get_here⟩
/-! ### the columns behind the program -/
theorem ixN_of {l : Nat} {t : Int} (h : 0 ≤ t ∧ t < l) : ixN l t = some t.toNat := by
  have := ixN_cg (l := List.replicate l 0) (t := t) (by rw [List.length_replicate]; exact h)
  rwa [List.length_map, List.length_replicate] at this
theorem Cols.putA {A : Type} {M : Hd} {cr N q : Nat} {cs : List Nat} {as : List A} {f g : A → List Int} {m c : Int} (h : Cols M cr cs (as.map f) m N) (h0 : 0 ≤ c) (hq : q ≠ cr) (hM : M[q]? = some (.lst (as.map fun l => D.int (cg (g l) c))))
    (hg : ∀ l ∈ as, ∀ j : Int, 0 ≤ j → j ≠ c → cg (g l) j = cg (f l) j) (hr : ∀ l ∈ as, (g l).length = N ∧ ∀ v ∈ g l, 0 ≤ v ∧ v < m) : Cols (M.set cr (.lst ((cs.set c.toNat q).map D.ref))) cr (cs.set c.toNat q) (as.map g) m N := by
  refine ⟨?_, by rw [List.length_set, h.len], ?_, ?_⟩
  · rw [set_get h.at_]
  · intro j p e
    by_cases hj : j = c.toNat
    · subst hj
      have hlt := (List.getElem?_eq_some_iff.mp e).1
      rw [List.length_set] at hlt
      rw [List.getElem?_set_self hlt] at e
      cases e
      refine ⟨hq, ?_⟩
      rw [List.getElem?_set_ne (Ne.symm hq), hM, List.map_map, Int.toNat_of_nonneg h0]
      rfl
    · rw [List.getElem?_set_ne (Ne.symm hj)] at e
      obtain ⟨h1, h2⟩ := h.col j p e
      refine ⟨h1, ?_⟩
      rw [List.getElem?_set_ne (Ne.symm h1), h2, List.map_map, List.map_map]
      congr 2
      apply List.map_congr_left
      intro l hl
      show D.int (cg (f l) j) = D.int (cg (g l) j)
      rw [hg l hl j (by omega) (by omega)]
  · intro l hl
    obtain ⟨l2, hl2, rfl⟩ := List.mem_map.mp hl
    exact hr l2 hl2
theorem Cols.put {M : Hd} {cr N q : Nat} {cs : List Nat} {ls : List (List Int)} {m c : Int} (h : Cols M cr cs ls m N) {g : List Int → List Int} (h0 : 0 ≤ c) (hq : q ≠ cr) (hM : M[q]? = some (.lst (ls.map fun l => D.int (cg (g l) c))))
    (hg : ∀ l ∈ ls, ∀ j : Int, 0 ≤ j → j ≠ c → cg (g l) j = cg l j) (hr : ∀ l ∈ ls, (g l).length = N ∧ ∀ v ∈ g l, 0 ≤ v ∧ v < m) : Cols (M.set cr (.lst ((cs.set c.toNat q).map D.ref))) cr (cs.set c.toNat q) (ls.map g) m N :=
  Cols.putA (f := fun l => l) (by rw [List.map_id']; exact h) h0 hq hM hg hr
theorem get_endZ {M X : Hd} {a b o : O} : (M ++ a :: (X ++ [o]))[(M ++ b :: X).length]? = some o := by
  have e : (M ++ b :: X).length = (M ++ a :: X).length := by simp
  rw [e, show M ++ a :: (X ++ [o]) = (M ++ a :: X) ++ [o] by simp]
  exact get_here
theorem doF_in {m k n : Int} {N : Nat} {st : List Int} {x : Sp_} (hm : 0 < m) (hN : (N : Int) = k + n) (hx : SpOk m n k x) (h : st.length = N ∧ ∀ v ∈ st, 0 ≤ v ∧ v < m) : (doF m k st x).length = N ∧ ∀ v ∈ doF m k st x, 0 ≤ v ∧ v < m := by
  refine ⟨doF_len.trans h.1, ?_⟩
  have hc := cg_in hm h.2
  cases x with
  | add t c fs => exact mem_set h.2 (mod_in _ hm)
  | scale t u => exact mem_set h.2 (mod_in _ hm)
  | swap a b => exact mem_set (mem_set h.2 (hc _)) (hc _)
  | table t s c f a b => exact h.2
/-- the columns of the cells -/
def CellsAt (M : Hd) (cr n : Nat) (k : Int) (ls : List (List Int)) : Prop := ∃ cs : List Nat, M[cr]? = some (.lst (cs.map D.ref)) ∧ cs.length = n ∧ ∀ (j q : Nat), cs[j]? = some q → M[q]? = some (.lst (ls.map fun l => D.int (cg l (k + j))))
theorem CellsAt.app {M X : Hd} {cr n : Nat} {k : Int} {ls : List (List Int)} (h : CellsAt M cr n k ls) : CellsAt (M ++ X) cr n k ls := let ⟨cs, a, b, c⟩ := h; ⟨cs, get_old a, b, fun j q e => get_old (c j q e)⟩
theorem CellsAt.ix {M : Hd} {cr n : Nat} {k c : Int} {ls : List (List Int)} (h : CellsAt M cr n k ls) (h0 : 0 ≤ c) (h1 : c < n) : ∃ (ds : List D) (q : Nat), M[cr]? = some (.lst ds) ∧ atI ds c = some (.ref q) ∧ M[q]? = some (.lst (ls.map fun l => D.int (cg l (k + c)))) := by
  obtain ⟨cs, a, b, e⟩ := h
  have hlt : c.toNat < cs.length := by omega
  refine ⟨_, cs[c.toNat], a, atI_nn h0 (by rw [List.getElem?_map, List.getElem?_eq_getElem hlt]; rfl), ?_⟩
  have := e c.toNat _ (List.getElem?_eq_getElem hlt)
  rwa [Int.toNat_of_nonneg h0] at this
theorem app_set {M X : Hd} {i : Nat} {o : O} (h : M.length ≤ i) : (M ++ X).set i o = M ++ X.set (i - M.length) o := List.set_append_right _ _ h
theorem ends_ok {M : Hd} {z u q : Nat} {ls : List (List Int)} {m : Int} {k n : Nat} {xs : List Sp_} (hx : ∀ x ∈ xs, SpOk m n k x) (hT : ∀ x ∈ xs, x.isT = false) (hm : 2 ≤ m ∧ m ≤ 1000000000) (hkn : k + n < 1000000) (hP : PrgAt M z u m n k xs) (hq : M[q]? = some (.lst (ls.map tupI))) (hl : ls.length < 16777216) (hr : ∀ l ∈ ls, l.length = k + n ∧ ∀ v ∈ l, 0 ≤ v ∧ v < m) :
    Wp (m_ends [.ref z, .ref q] M) (okQ fun d M1 => ∃ cr X, d = .ref cr ∧ M1 = M ++ X ∧ CellsAt M1 cr n k (ls.map (runS m k xs))) := by
  refine wp_mir rfl ?_
  obtain ⟨e1, e2, e3, e4⟩ := fldP hP.at_
  unfold g_ends
  walk_at "ds"
  rw [e3]
  walk_at "ds"
  refine wp_eLc ?_
  unfold rng1
  simp only [eOp, eUn, eVar, wp_bnd, List.getElem?_cons_zero, List.getElem?_cons_succ, List.set_cons_succ, List.set_cons_zero, wp_some, e2, addG_int, bnd_ok]
  rw [if_sm (by omega), wp_some]
  dsimp only
  refine wp_lcL (fun i M1 => ∃ (cs : List Nat) (X : Hd), M1 = M ++ .lst (cs.map D.ref) :: X ∧ cs.length = i ∧ ∀ (j p : Nat), cs[j]? = some p → p ≠ M.length ∧ M1[p]? = some (.lst (ls.map fun l => D.int (cg l j)))) ?_ ?_ ?_
  · rintro i d M1 hd ⟨cs, X, rfl, hcl, hcs⟩
    obtain ⟨hi, rfl⟩ := ints_get hd
    refine ⟨by simp, _, rfl, ?_⟩
    walk_at "ds"
    refine ⟨(fun h => nomatch h), fun _ => ?_⟩
    rw [column_of_ok (c := 0 + (i : Int)) (get_old hq) hl (fun l h => by have := (hr l h).1; omega), wp_some]
    dsimp only
    refine ⟨cs.map D.ref, get_old get_here, by rw [List.length_map]; omega, cs ++ [(M ++ .lst (cs.map D.ref) :: X).length], X ++ [.lst (ls.map fun l => D.int (cg l (0 + (i : Int))))], ?_, by simp [hcl], ?_⟩
    · rw [List.append_assoc, List.cons_append, set_here, List.map_append]
      rfl
    · rw [List.append_assoc, List.cons_append, set_here]
      intro j p e
      by_cases hj : j < i
      · rw [List.getElem?_append_left (by omega)] at e
        obtain ⟨h1, h2⟩ := hcs j p e
        refine ⟨h1, ?_⟩
        have h3 := get_old (Z := [O.lst (ls.map fun l => D.int (cg l (0 + (i : Int))))]) h2
        rw [List.append_assoc, List.cons_append] at h3
        have e5 := List.getElem?_set_ne (l := M ++ O.lst (cs.map D.ref) :: (X ++ [O.lst (ls.map fun l => D.int (cg l (0 + (i : Int))))])) (a := O.lst (cs.map D.ref ++ [D.ref (M ++ .lst (cs.map D.ref) :: X).length])) (Ne.symm h1)
        rw [set_here] at e5
        rw [e5]
        exact h3
      · rw [List.getElem?_append_right (by omega)] at e
        have hj' : j = i := by
          have := (List.getElem?_eq_some_iff.mp e).1
          simp at this
          omega
        subst hj'
        rw [hcl, Nat.sub_self] at e
        cases e
        refine ⟨by simp, ?_⟩
        rw [Int.zero_add]
        exact get_endZ
  · rintro M1 ⟨cs, X, rfl, hcl, hcs⟩
    refine ⟨by simp, ?_⟩
    rw [ints_length] at hcl
    have hC : Cols (M ++ .lst (cs.map D.ref) :: X) M.length cs (ls.map (runS m k (xs.take 0))) m (k + n) := ⟨get_here, by omega, fun j p e => by rw [List.map_map]; exact hcs j p e, fun l h => by
      obtain ⟨l2, hl2, rfl⟩ := List.mem_map.mp h
      exact hr l2 hl2⟩
    have e4 := (fldP (hP.app (X := .lst (cs.map D.ref) :: X)).at_).2.2.2
    walk_at "ds"
    rw [e4]
    walk_at "ds"
    rw [(hP.app (X := .lst (cs.map D.ref) :: X)).st]
    walk_at "ds"
    refine wp_forL (fun i r M1 => ∃ (cs : List Nat) (X : Hd) (a4 a5 a6 : Option D), r = [some (.ref z), some (.ref q), some (.int k), some (.ref M.length), a4, a5, a6, none, none] ∧ M1 = M ++ X ∧ Cols M1 M.length cs (ls.map (runS m k (xs.take i))) m (k + n)) ?_ ?_ ?_
    · rintro i d r M1 hd ⟨cs, X, a4, a5, a6, rfl, rfl, hC⟩
      rw [List.getElem?_map] at hd
      obtain ⟨x, hxi, rfl⟩ := Option.map_eq_some_iff.mp hd
      have okx := hx x (List.mem_of_getElem? hxi)
      have hTx := hT x (List.mem_of_getElem? hxi)
      have hP1 := hP.app (X := X)
      obtain ⟨e1, _, e3, _⟩ := fldP hP1.at_
      have hrow := hC.row
      have hlen : (ls.map (runS m k (xs.take i))).length < 16777216 := by rw [List.length_map]; exact hl
      have hnext : ls.map (runS m k (xs.take (i + 1))) = (ls.map (runS m k (xs.take i))).map fun st => doF m k st x := by
        rw [List.map_map]
        apply List.map_congr_left
        intro l _
        exact runS_take hxi
      rw [hnext]
      generalize ls.map (runS m k (xs.take i)) = L at hC hrow hlen ⊢
      have hin : ∀ l ∈ L, (doF m k l x).length = k + n ∧ ∀ v ∈ doF m k l x, 0 ≤ v ∧ v < m := fun l h => doF_in (N := k + n) (by omega) (by omega) okx (hrow l h)
      refine ⟨by simp only [still_one, still_nil, and_true]; exact hP1.st, _, rfl, ?_⟩
      obtain ⟨M1, hM1⟩ : ∃ M1, M1 = M ++ X := ⟨_, rfl⟩
      rw [← hM1] at hC hP1 e1 e3 ⊢
      have hML : M.length < M1.length := (List.getElem?_eq_some_iff.mp hC.at_).1
      cases x with
      | add t c fs =>
        have ht := okx.1
        have hlm : 0 ≤ (k : Int) + t ∧ (k : Int) + t < (cs.map D.ref).length := by rw [List.length_map, hC.len]; omega
        unfold spd
        walk_at "sx"
        refine (added_ok okx hm (by omega) (N := k + n) (by omega) hP1 hC hlen).ok ?_
        rintro _ _ ⟨q2, Z2, rfl, rfl, hq2, hc2⟩
        walk_at "sx"
        rw [get_old hC.at_]
        dsimp only
        rw [ixN_of hlm]
        walk_at "sx"
        have hput := (hC.app (X := Z2)).put (g := fun st => doF m k st (.add t c fs)) (c := k + t) (q := q2) (by omega) (by omega) (by
          rw [hc2]
          congr 2
          apply List.map_congr_left
          intro l hl
          show _ = D.int (cg (l.set (k + t).toNat _) (k + t))
          have hln := (hrow l hl).1
          rw [cg_set_self (l := l) (t := k + t) (by omega)]) (fun l hl j h0 hj => cg_set (by omega) h0 hj) hin
        rw [List.map_set] at hput
        refine ⟨_, (X ++ Z2).set (M.length - M.length) (O.lst ((cs.map D.ref).set (k + t).toNat (.ref q2))), _, _, _, rfl, ?_, hput⟩
        rw [hM1, List.append_assoc, app_set (Nat.le_refl _)]
      | scale t w =>
        have ht := okx.1
        have hu := okx.2.1
        have hlm : 0 ≤ (k : Int) + t ∧ (k : Int) + t < (cs.map D.ref).length := by rw [List.length_map, hC.len]; omega
        obtain ⟨qt, ht1, ht2, _, ht3, ht4⟩ := hC.ix (c := k + t) (by omega) (by omega)
        have hlq : (L.map fun l => D.int (cg l (k + t))).length < 16777216 := by rw [List.length_map]; exact hlen
        have go : ∀ a6, eLc (seqI (eOp ixG (eVar 3) (eVar 5))) (.nm 8) tYes (eOp modG (eOp mulG (eVar 8) (eOp ixG (eVar 4) (eC (.int 2)))) (eUn (fldG "Program" "modulus") (eVar 0))) [8] [some (.ref z), some (.ref q), some (.int k), some (.ref M.length), some (spd (.scale t w)), some (.int (k + t)), a6, none, none] M1 = some (.ok (.ref M1.length) (M1 ++ [.lst (L.map fun l => D.int (cg l (k + t) * w % m))])) := by
          intro a6
          refine wp_all (M := M1) (seq_ref (i := qt) (ds := L.map fun l => D.int (cg l (k + t))) ?_ ht4) (fun X => still_of ht4 X) hlq (by simp) ?_
          · show bnd (some (Rs.ok (D.ref M.length) M1)) (fun x M1 => bnd (some (Rs.ok (D.int (k + t)) M1)) fun y M2 => ixG x y M2) = _
            simp only [bnd_ok]
            rw [ixG_ref hC.at_, ht2]
            rfl
          · intro i d v hd hv Y
            rw [List.getElem?_map] at hd hv
            obtain ⟨l, hl, rfl⟩ := Option.map_eq_some_iff.mp hd
            rw [hl] at hv
            cases hv
            refine ⟨_, rfl, ?_⟩
            have h2 := cg_in (show 0 < m by omega) (hrow l (List.mem_of_getElem? hl)).2 (k + t)
            show bnd (bnd (some (Rs.ok (D.int (cg l (k + t))) (M1 ++ Y))) fun x M1 => bnd (bnd (some (Rs.ok (spd (.scale t w)) M1)) fun x M1 => bnd (some (Rs.ok (D.int 2) M1)) fun y M2 => ixG x y M2) fun y M2 => mulG x y M2) (fun x M1 => bnd (bnd (some (Rs.ok (D.ref z) M1)) fun x M1 => fldG "Program" "modulus" x M1) fun y M2 => modG x y M2) = _
            unfold spd
            simp only [bnd_ok, ixG_tup, atI_c2, pr_some]
            rw [mulG_l (by omega), bnd_ok, (fldP (hP1.app (X := Y)).at_).1, bnd_ok, modG_ok (by omega)]
        simp only [spd] at go
        unfold spd
        walk_at "sx"
        rw [go]
        walk_at "sx"
        rw [get_old hC.at_]
        dsimp only
        rw [ixN_of hlm]
        walk_at "sx"
        have hput := (hC.app (X := [.lst (L.map fun l => D.int (cg l (k + t) * w % m))])).put (g := fun st => doF m k st (.scale t w)) (c := k + t) (q := M1.length) (by omega) (by have := (List.getElem?_eq_some_iff.mp hC.at_).1; omega) (by
          rw [get_here]
          congr 2
          apply List.map_congr_left
          intro l hl
          show _ = D.int (cg (l.set (k + t).toNat _) (k + t))
          have hln := (hrow l hl).1
          rw [cg_set_self (l := l) (t := k + t) (by omega)]) (fun l hl j h0 hj => cg_set (by omega) h0 hj) hin
        rw [List.map_set] at hput
        refine ⟨_, (X ++ [O.lst (L.map fun l => D.int (cg l (k + t) * w % m))]).set (M.length - M.length) (O.lst ((cs.map D.ref).set (k + t).toNat (.ref M1.length))), _, _, _, rfl, ?_, hput⟩
        rw [hM1, List.append_assoc, app_set (Nat.le_refl _)]
      | swap a b =>
        obtain ⟨ha, hb, hne⟩ := okx
        have hlm : 0 ≤ (k : Int) + a ∧ (k : Int) + a < (cs.map D.ref).length := by rw [List.length_map, hC.len]; omega
        obtain ⟨qa, ha1, ha2, _, ha3, ha4⟩ := hC.ix (c := k + a) (by omega) (by omega)
        obtain ⟨qb, hb1, hb2, _, hb3, hb4⟩ := hC.ix (c := k + b) (by omega) (by omega)
        unfold spd
        walk_at "sx"
        rw [hC.at_]
        walk_at "sx"
        rw [ha2]
        walk_at "sx"
        rw [hC.at_]
        walk_at "sx"
        rw [hb2]
        walk_at "sx"
        rw [hC.at_]
        dsimp only
        rw [ixN_of hlm]
        walk_at "sx"
        rw [set_get hC.at_]
        dsimp only
        rw [ixN_of (by rw [List.length_set, List.length_map, hC.len]; omega)]
        walk_at "sx"
        have hcg := fun (l : List Int) (hl : l ∈ L) => cg_in (show 0 < m by omega) (hrow l hl).2
        have h1 := hC.put (g := fun l => l.set (k + a).toNat (cg l (k + b))) (c := k + a) (q := qb) (by omega) hb3 (by
          rw [hb4]
          congr 2
          apply List.map_congr_left
          intro l hl
          have hln := (hrow l hl).1
          rw [cg_set_self (l := l) (t := k + a) (by omega)]) (fun l hl j h0 hj => cg_set (by omega) h0 hj) (fun l hl => ⟨by rw [List.length_set]; exact (hrow l hl).1, mem_set (hrow l hl).2 (hcg l hl _)⟩)
        have h2 := h1.putA (g := fun l => doF m k l (.swap a b)) (c := k + b) (q := qa) (by omega) ha3 (by
          rw [List.getElem?_set_ne (Ne.symm ha3), ha4]
          congr 2
          apply List.map_congr_left
          intro l hl
          have hln := (hrow l hl).1
          show _ = D.int (cg ((l.set (k + a).toNat (cg l (k + b))).set (k + b).toNat (cg l (k + a))) (k + b))
          rw [cg_set_self (l := l.set (k + a).toNat (cg l (k + b))) (t := k + b) (by rw [List.length_set]; omega)]) (fun l hl j h0 hj => cg_set (by omega) h0 hj) hin
        rw [List.set_set, List.map_set, List.map_set] at h2
        refine ⟨_, X.set (M.length - M.length) (O.lst (((cs.map D.ref).set (k + a).toNat (.ref qb)).set (k + b).toNat (.ref qa))), _, _, _, rfl, ?_, by rw [List.set_set]; exact h2⟩
        rw [hM1, List.set_set, app_set (Nat.le_refl _)]
      | table t s c f a b => cases hTx
    · rintro r M1 ⟨cs, X, a4, a5, a6, rfl, rfl, hC⟩
      refine ⟨by simp only [still_one, still_nil, and_true]; exact (hP.app (X := X)).st, ?_⟩
      rw [List.length_map, List.take_length] at hC
      walk_at "ds"
      rw [slice_ref hC.at_]
      walk_at "ds"
      refine ⟨_, X ++ [.lst (cutD (cs.map D.ref) (some (k : Int)) none)], rfl, by rw [List.append_assoc], cs.drop k, ?_, by rw [List.length_drop, hC.len]; omega, ?_⟩
      · rw [cut_from (by rw [List.length_map, hC.len]; omega), Int.toNat_natCast, ← List.map_drop]
        exact get_here
      · intro j p e
        rw [List.getElem?_drop] at e
        have := (hC.col _ p e).2
        rw [show (((k + j : Nat)) : Int) = k + j by omega] at this
        exact get_old this
    · exact ⟨cs, _, none, none, none, rfl, rfl, hC⟩
  · exact ⟨[], [], rfl, rfl, fun j p e => nomatch e⟩
/-! ### witnesses -/
def WitD (M : Hd) (n : Nat) : Option Wit → D → Prop
  | none, d => d = .non
  | some (.sp gs mem c), d => ∃ a b, d = .tup [.str "spoilt", .ref a, .ref b, .int c] ∧ M[a]? = some (.lst (gs.map D.int)) ∧ M[b]? = some (.lst (mem.map D.int))
  | some (.lk gs mem), d => ∃ a b c, d = .tup [.str "leaky", .ref a, .ref b, .ref c] ∧ M[a]? = some (.lst (gs.map D.int)) ∧ M[b]? = some (.lst ((List.replicate n (0 : Int)).map D.int)) ∧ M[c]? = some (.lst (mem.map D.int))
theorem WitD.app {M X : Hd} {n : Nat} {w : Option Wit} {d : D} (h : WitD M n w d) : WitD (M ++ X) n w d := by
  cases w with
  | none => exact h
  | some w =>
    cases w with
    | sp gs mem c => obtain ⟨a, b, e, h1, h2⟩ := h; exact ⟨a, b, e, get_old h1, get_old h2⟩
    | lk gs mem => obtain ⟨a, b, c, e, h1, h2, h3⟩ := h; exact ⟨a, b, c, e, get_old h1, get_old h2, get_old h3⟩
theorem numb_tup {ls : List (List Int)} {i : Nat} {d : D} (h : (numbD (ls.map tupI))[i]? = some d) : ∃ l, ls[i]? = some l ∧ d = .tup [.int i, .tup (l.map D.int)] := by
  obtain ⟨x, h1, rfl⟩ := numb_get h
  obtain ⟨l, h2, rfl⟩ := tup_get h1
  exact ⟨l, h2, rfl⟩
theorem numb_len {xs : List D} : (numbD xs).length = xs.length := by unfold numbD; simp
theorem enum_ref {f : EF} {r : Ev} {M : Hd} {i : Nat} {xs : List D} (h : f r M = some (.ok (.ref i) M)) (h2 : M[i]? = some (.lst xs)) : enumI f r M = some (.ok (numbD xs, [(i, xs)]) M) := by
  unfold enumI
  rw [h, bnd_ok]
  unfold sqD
  simp only [h2]
theorem at_map {A : Type} {f : A → D} {ls : List A} {i : Nat} {l : A} (h : ls[i]? = some l) : atI (ls.map f) (i : Int) = some (f l) := by
  rw [L2.atI_nat (j := i) (by rw [List.getElem?_map, h]; rfl)]
theorem take_ints {l : List Int} {k : Nat} : (l.map D.int).take k = (l.take k).map D.int := (List.map_take ..).symm
theorem drop_ints {l : List Int} {k : Nat} : (l.map D.int).drop k = (l.drop k).map D.int := (List.map_drop ..).symm
theorem sl_lo {l : List Int} {k : Nat} {M : Hd} (h : k ≤ l.length) : sliceD (.tup (l.map D.int)) none (some (k : Int)) M = some (.ok (.tup ((l.take k).map D.int)) M) := by
  show some (Rs.ok (D.tup (cutD (l.map D.int) none (some (k : Int)))) M) = _
  rw [cut_to (by rw [List.length_map]; omega), Int.toNat_natCast, take_ints]
theorem sl_hi {l : List Int} {k : Nat} {M : Hd} (h : k ≤ l.length) : sliceD (.tup (l.map D.int)) (some (k : Int)) none M = some (.ok (.tup ((l.drop k).map D.int)) M) := by
  show some (Rs.ok (D.tup (cutD (l.map D.int) (some (k : Int)) none)) M) = _
  rw [cut_from (by rw [List.length_map]; omega), Int.toNat_natCast, drop_ints]
theorem listG_tup {ds : List D} {M : Hd} : listG (.tup ds) M = some (.ok (.ref M.length) (M ++ [.lst ds])) := rfl
theorem runS_row {m : Int} {k n : Nat} {xs : List Sp_} {l : List Int} (hx : ∀ x ∈ xs, SpOk m n k x) (hT : ∀ x ∈ xs, x.isT = false) (hl : l.length = k + n) {c : Int} (hc : 0 ≤ c) : cg (runS m k xs l) (k + c) = cg (ran m (l.take k) (l.drop k) xs) c := by
  have h1 : ((l.take k).length : Int) = k := by rw [List.length_take]; omega
  have := runS_eq (m := m) h1 xs (l.drop k) hx hT
  rw [List.take_append_drop] at this
  rw [this, cg_hi h1 hc]
theorem row_hi {k n : Nat} {l : List Int} (hl : l.length = k + n) {c : Int} (hc : 0 ≤ c) : cg l (k + c) = cg (l.drop k) c := by
  have h1 : ((l.take k).length : Int) = k := by rw [List.length_take]; omega
  have := cg_hi (mem := l.drop k) h1 hc
  rwa [List.take_append_drop] at this
theorem spoilt_ok {M : Hd} {z u q cr : Nat} {ls : List (List Int)} {m t : Int} {k n : Nat} {xs : List Sp_} (hx : ∀ x ∈ xs, SpOk m n k x) (hT : ∀ x ∈ xs, x.isT = false) (hkn : k + n < 1000000) (hP : PrgAt M z u m n k xs) (hq : M[q]? = some (.lst (ls.map tupI))) (hr : ∀ l ∈ ls, l.length = k + n ∧ ∀ v ∈ l, 0 ≤ v ∧ v < m) (hC : CellsAt M cr n k (ls.map (runS m k xs))) :
    Wp (m_spoilt [.ref z, .int t, .ref q, .ref cr] M) (okQ fun d M1 => ∃ X, M1 = M ++ X ∧ WitD M1 n (ls.findSome? (spW m t k n xs)) d) := by
  refine wp_mir rfl ?_
  obtain ⟨e1, e2, e3, e4⟩ := fldP hP.at_
  unfold g_spoilt
  walk_at "ds"
  rw [e3]
  walk_at "ds"
  rw [enum_ref (i := q) rfl hq, wp_some]
  dsimp only
  refine wp_forL (fun i r M1 => ∃ (a5 a6 a7 : Option D), r = [some (.ref z), some (.int t), some (.ref q), some (.ref cr), some (.int k), a5, a6, a7] ∧ M = M1 ∧ (ls.take i).findSome? (spW m t k n xs) = none) ?_ ?_ ?_
  · rintro i d r M1 hd ⟨a5, a6, a7, rfl, rfl, hi⟩
    obtain ⟨l, hli, rfl⟩ := numb_tup hd
    obtain ⟨hll, hlv⟩ := hr l (List.mem_of_getElem? hli)
    refine ⟨by simp only [still_one, still_nil, and_true]; exact hq, _, rfl, ?_⟩
    walk_at "ds"
    rw [e2]
    walk_at "ds"
    rw [if_smP (by omega)]
    refine wp_forL (fun c r M1 => ∃ (a7 : Option D), r = [some (.ref z), some (.int t), some (.ref q), some (.ref cr), some (.int k), some (.int i), some (.tup (l.map D.int)), a7] ∧ M = M1 ∧ (((List.range n).map fun (c : Nat) => (c : Int)).take c).findSome? (fun c => if c ≠ t ∧ cg (ran m (l.take k) (l.drop k) xs) c ≠ cg (l.drop k) c then some c else none) = none) ?_ ?_ ?_
    · rintro c d r M1 hd ⟨a7, rfl, rfl, hc⟩
      obtain ⟨hcn, rfl⟩ := ints_get hd
      rw [Int.toNat_natCast] at hcn
      refine ⟨by simp, _, rfl, ?_⟩
      have hgc : ((List.range n).map fun (c : Nat) => (c : Int))[c]? = some (c : Int) := by
        rw [List.getElem?_map, List.getElem?_range hcn]
        rfl
      obtain ⟨ds, qc, hd1, hd2, hd3⟩ := hC.ix (c := (c : Int)) (by omega) (by omega)
      rw [Int.zero_add]
      refine wp_if2 (c := (c : Int) ≠ t ∧ cg (ran m (l.take k) (l.drop k) xs) c ≠ cg (l.drop k) c) ?_ (fun h => ?_) (fun h => ?_)
      · walk_at "di"
        by_cases h1 : (c : Int) = t
        · simp [h1]
        · rw [if_pos h1]
          rw [hd1]
          dsimp only
          rw [hd2]
          walk_at "di"
          rw [hd3]
          dsimp only
          rw [List.map_map, at_map hli]
          walk_at "di"
          rw [atI_cs (cs := l) (c := (k : Int) + c) (by omega)]
          walk_at "di"
          simp only [Function.comp, runS_row hx hT hll (show (0 : Int) ≤ c by omega), row_hi hll (show (0 : Int) ≤ c by omega)]
          walk_at "di"
          by_cases h2 : cg (ran m (l.take k) (l.drop k) xs) c = cg (l.drop k) c <;> simp [h1, h2]
      · walk_at "ds"
        rw [sl_lo (by omega)]
        walk_at "ds"
        rw [listG_tup]
        walk_at "ds"
        rw [sl_hi (by omega)]
        walk_at "ds"
        rw [listG_tup]
        walk_at "ds"
        have hbad : badC n t (l.drop k) (ran m (l.take k) (l.drop k) xs) = some (c : Int) := fs_hit hc hgc (if_pos h)
        rw [fs_hit hi hli (w := .sp (l.take k) (l.drop k) c) (by unfold spW; rw [hbad]; rfl)]
        exact ⟨_, List.append_assoc .., M.length, _, rfl, get_old get_here, get_here⟩
      · unfold sNil
        rw [wp_some]
        exact ⟨_, rfl, rfl, fs_miss hc hgc (if_neg h)⟩
    · rintro r M1 ⟨a7, rfl, rfl, hc⟩
      refine ⟨by simp, ?_⟩
      rw [ints_length, Int.toNat_natCast] at hc
      rw [List.take_of_length_le (l := (List.range n).map fun (c : Nat) => (c : Int)) (by simp)] at hc
      exact ⟨_, _, _, rfl, rfl, fs_miss hi hli (by unfold spW; rw [show badC n t (l.drop k) (ran m (l.take k) (l.drop k) xs) = none from hc]; rfl)⟩
    · exact ⟨_, rfl, rfl, rfl⟩
  · rintro r M1 ⟨a5, a6, a7, rfl, rfl, hi⟩
    refine ⟨by simp only [still_one, still_nil, and_true]; exact hq, ?_⟩
    rw [numb_len, List.length_map, List.take_length] at hi
    walk_at "ds"
    rw [hi]
    exact ⟨[], by simp, rfl⟩
  · exact ⟨_, _, _, rfl, rfl, rfl⟩
/-! ### leaky -/
theorem lookup_app {α β : Type} [BEq α] [LawfulBEq α] {x k : α} {v : β} : ∀ {l : List (α × β)}, (l ++ [(k, v)]).lookup x = match l.lookup x with
    | some d => some d
    | none => if x == k then some v else none
  | [] => by
    rw [List.nil_append, List.lookup_cons, List.lookup_nil]
    cases x == k <;> rfl
  | (y, w) :: l => by
    rw [List.cons_append, List.lookup_cons, List.lookup_cons]
    by_cases h : (x == y) = true
    · rw [h]
    · rw [Bool.not_eq_true] at h
      rw [h]
      exact lookup_app
theorem setd_go {fo : EF} {fa : AF} {r : Ev} {M : Hd} {i : Nat} {kvs : List (List Int × D)} {ks : List Int} {z : D} (h1 : fo r M = some (.ok (.ref i) M)) (h2 : M[i]? = some (.dct kvs)) (h3 : fa r M = some (.ok [.tup (ks.map D.int), z] M)) (hl : kvs.length < 16777216) :
    eSetd fo fa r M = match kvs.lookup ks with
      | some d => some (.ok d M)
      | none => some (.ok z (M.set i (.dct (kvs ++ [(ks, z)])))) := by
  unfold eSetd
  rw [h1, bnd_ok]
  dsimp only
  rw [h2]
  dsimp only
  rw [h3, bnd_ok]
  dsimp only
  unfold setdX
  dsimp only
  rw [h2, mapM_int]
  dsimp only
  rw [if_pos hl]
  all_goals (cases kvs.lookup ks <;> rfl)
theorem mem_take_of {A : Type} {l : List A} {i j : Nat} {x : A} (h : l[j]? = some x) (hj : j < i) : x ∈ l.take i := List.mem_of_getElem? (i := j) (by rw [List.getElem?_take_of_lt hj]; exact h)
theorem zeros_ok {it : IF} {j : Nat} {own : List Nat} {r : Ev} {M : Hd} {n : Nat} (hn : n < 16777216) (h : it r M = some (.ok (intsD 0 n, []) M)) : eLc it (.nm j) tYes (eC (.int 0)) own r M = some (.ok (.ref M.length) (M ++ [.lst ((List.replicate n (0 : Int)).map D.int)])) := by
  refine wp_all h (fun X => by simp) (by rw [ints_length]; exact hn) (by simp) ?_
  intro i d w hd hw X
  refine ⟨_, rfl, ?_⟩
  rw [List.getElem?_map, List.getElem?_replicate] at hw
  split at hw
  · cases hw; rfl
  · cases hw
theorem leaky_ok {M : Hd} {z u q cr p : Nat} {t : Int} {k n : Nat} {xs : List Sp_} (hp : 2 ≤ p ∧ p ≤ 1000000000) (hx : ∀ x ∈ xs, SpOk p n k x) (hT : ∀ x ∈ xs, x.isT = false) (hkn : k + n < 1000000) (hpn : p ^ (k + n) < 16777216) (ht : 0 ≤ t ∧ t < n) (hP : PrgAt M z u p n k xs) (hq : M[q]? = some (.lst ((pts p (k + n)).map tupI))) (hC : CellsAt M cr n k ((pts p (k + n)).map (runS p k xs))) :
    Wp (m_leaky [.ref z, .int t, .ref q, .ref cr] M) (okQ fun d M1 => ∃ X, M1 = M ++ X ∧ WitD M1 n (fstLk p t k n xs) d) := by
  refine wp_mir rfl ?_
  unfold g_leaky
  obtain ⟨e1, e2, e3, e4⟩ := fldP hP.at_
  walk_at "ds"
  rw [e3]
  walk_at "ds"
  unfold eNewX
  walk_at "ds"
  rw [enum_ref (i := q) rfl (get_old hq), wp_some]
  dsimp only
  unfold fstLk
  refine wp_forL (fun i r M1 => ∃ (kvs : List (List Int × D)) (a6 a7 a8 a9 : Option D), r = [some (.ref z), some (.int t), some (.ref q), some (.ref cr), some (.int k), some (.ref M.length), a6, a7, a8, a9, none, none] ∧ M1 = M ++ [.dct kvs] ∧ kvs.length ≤ i ∧ ((pts p (k + n)).take i).findSome? (lkW p t k n xs) = none ∧
    (∀ g v, kvs.lookup g = some v → v = .int (chg p t xs g (List.replicate n 0))) ∧ (∀ l ∈ (pts p (k + n)).take i, kvs.lookup (l.take k) ≠ none)) ?_ ?_ ?_
  · rintro i d r M1 hd ⟨kvs, a6, a7, a8, a9, rfl, rfl, hkl, hi, h1, h2⟩
    obtain ⟨l, hli, rfl⟩ := numb_tup hd
    obtain ⟨hip, rfl⟩ := pts_at hli
    have hll : (dig p (k + n) i).length = k + n := dig_len
    have hlv := dig_in (p := p) (by omega) (N := k + n) (i := i)
    obtain ⟨j, hj, hjz⟩ := dig_zero (p := p) (k := k) (by omega) n i
    generalize hL : dig p (k + n) i = l at *
    refine ⟨by simp only [still_one, still_nil, and_true]; exact get_old hq, _, rfl, ?_⟩
    have hC1 := hC.app (X := [.dct kvs])
    have e1 := (fldP (hP.app (X := [.dct kvs])).at_).1
    have e2 := (fldP (hP.app (X := [.dct kvs])).at_).2.1
    obtain ⟨ds, qc, hd1, hd2, hd3⟩ := hC1.ix ht.1 ht.2
    have hch : (cg (runS p k xs l) (k + t) - cg l (k + t)) % p = chg p t xs (l.take k) (l.drop k) := by
      rw [runS_row hx hT hll ht.1, row_hi hll ht.1]
      rfl
    walk_at "ds"
    rw [sl_lo (by omega)]
    walk_at "ds"
    rw [hd1]
    dsimp only
    rw [hd2]
    walk_at "ds"
    rw [hd3]
    dsimp only
    rw [List.map_map, at_map hli]
    walk_at "ds"
    rw [atI_cs (cs := l) (c := (k : Int) + t) (by omega)]
    simp only [Function.comp]
    walk_at "ds"
    rw [e1]
    walk_at "ds"
    rw [modG_ok (by omega), hch]
    walk_at "ds"
    have hkl2 : kvs.length < 16777216 := by omega
    have hmiss : lkW p t k n xs l = none ↔ chg p t xs (l.take k) (l.drop k) = chg p t xs (l.take k) (List.replicate n 0) := by
      unfold lkW
      by_cases h : chg p t xs (l.take k) (l.drop k) = chg p t xs (l.take k) (List.replicate n 0) <;> simp [h]
    have htk : (pts p (k + n)).take (i + 1) = (pts p (k + n)).take i ++ [l] := by rw [List.take_add_one, hli]; rfl
    cases hlk : kvs.lookup (l.take k) with
    | some v =>
      have hv := h1 _ _ hlk
      subst hv
      have go : ∀ (r : Ev), r[5]? = some (some (.ref M.length)) → r[8]? = some (some (.tup ((l.take k).map D.int))) → r[9]? = some (some (.int (chg p t xs (l.take k) (l.drop k)))) → eSetd (eVar 5) (aCons (eVar 8) (aCons (eVar 9) aNil)) r (M ++ [.dct kvs]) = some (.ok (.int (chg p t xs (l.take k) (List.replicate n 0))) (M ++ [.dct kvs])) := by
        intro r r5 r8 r9
        rw [setd_go (i := M.length) (kvs := kvs) (ks := l.take k) (z := .int (chg p t xs (l.take k) (l.drop k))) (by unfold eVar; rw [r5]) get_here (by simp only [aCons, aNil, eVar, r8, r9, bnd_ok]) hkl2, hlk]
      refine wp_if2 (c := chg p t xs (l.take k) (List.replicate n 0) ≠ chg p t xs (l.take k) (l.drop k)) ?_ (fun h => ?_) (fun h => ?_)
      · unfold tVal eOp
        rw [wp_bnd, wp_bnd, go _ rfl rfl rfl, wp_some]
        walk_at "di"
        exact ⟨_, rfl, by simp⟩
      · walk_at "ds"
        rw [zeros_ok (n := n) (by omega) (by
          unfold rng1 eUn eVar
          simp only [List.getElem?_cons_zero, bnd_ok, e2]
          rw [if_sm (by omega), Int.toNat_natCast])]
        walk_at "ds"
        rw [listG_tup]
        walk_at "ds"
        rw [sl_hi (by omega)]
        walk_at "ds"
        rw [listG_tup]
        walk_at "ds"
        rw [fs_hit hi hli (w := .lk (l.take k) (l.drop k)) (by unfold lkW; rw [if_pos (fun e => h e.symm)])]
        refine ⟨[.dct kvs, .lst ((List.replicate n (0 : Int)).map D.int), .lst ((l.take k).map D.int), .lst ((l.drop k).map D.int)], by simp, _, _, _, rfl, ?_, ?_, ?_⟩
        · exact get_old get_here
        · exact get_old (get_old get_here)
        · exact get_here
      · unfold sNil
        rw [wp_some]
        exact ⟨kvs, _, _, _, _, rfl, rfl, by omega, fs_miss hi hli (hmiss.mpr (Classical.not_not.mp h).symm), h1, fun l2 hl2 => by
          rw [htk] at hl2
          rcases List.mem_append.mp hl2 with hl2 | hl2
          · exact h2 l2 hl2
          · rw [List.mem_singleton] at hl2
            subst hl2
            rw [hlk]
            exact fun e => nomatch e⟩
    | none =>
      have hz : l.drop k = List.replicate n 0 := by
        rcases Nat.lt_or_ge j i with hji | hji
        · have hjm : dig p (k + n) j ∈ (pts p (k + n)).take i := mem_take_of (pts_get (by omega)) hji
          have := h2 _ hjm
          rw [hjz, List.take_append_of_le_length (by rw [List.length_take]; omega), List.take_take, Nat.min_self] at this
          exact absurd hlk this
        · have : j = i := by omega
          subst this
          rw [hL] at hjz
          rw [hjz, List.drop_left' (by rw [List.length_take]; omega)]
      have go : ∀ (r : Ev), r[5]? = some (some (.ref M.length)) → r[8]? = some (some (.tup ((l.take k).map D.int))) → r[9]? = some (some (.int (chg p t xs (l.take k) (l.drop k)))) → eSetd (eVar 5) (aCons (eVar 8) (aCons (eVar 9) aNil)) r (M ++ [.dct kvs]) = some (.ok (.int (chg p t xs (l.take k) (l.drop k))) (M ++ [.dct (kvs ++ [(l.take k, .int (chg p t xs (l.take k) (l.drop k)))])])) := by
        intro r r5 r8 r9
        rw [setd_go (i := M.length) (kvs := kvs) (ks := l.take k) (z := .int (chg p t xs (l.take k) (l.drop k))) (by unfold eVar; rw [r5]) get_here (by simp only [aCons, aNil, eVar, r8, r9, bnd_ok]) hkl2, hlk]
        dsimp only
        rw [set_here]
      unfold sIf
      rw [wp_exB]
      unfold tVal eOp
      rw [wp_bnd, wp_bnd, go _ rfl rfl rfl, wp_some]
      walk_at "di"
      refine ⟨_, _, _, _, _, rfl, rfl, by simp; omega, fs_miss hi hli (hmiss.mpr (by rw [hz])), fun g v hg => ?_, fun l2 hl2 => ?_⟩
      · rw [lookup_app] at hg
        cases hgk : kvs.lookup g with
        | some v2 =>
          rw [hgk] at hg
          cases hg
          exact h1 _ _ hgk
        | none =>
          rw [hgk] at hg
          dsimp only at hg
          split at hg
          · rename_i e
            cases hg
            rw [eq_of_beq e, hz]
          · cases hg
      · rw [lookup_app]
        rw [htk] at hl2
        rcases List.mem_append.mp hl2 with hl2 | hl2
        · have := h2 l2 hl2
          cases hgk : kvs.lookup (l2.take k) with
          | some v2 => exact fun e => nomatch e
          | none => exact absurd hgk this
        · rw [List.mem_singleton] at hl2
          subst hl2
          rw [hlk]
          simp
  · rintro r M1 ⟨kvs, a6, a7, a8, a9, rfl, rfl, hkl, hi, h1, h2⟩
    refine ⟨by simp only [still_one, still_nil, and_true]; exact get_old hq, ?_⟩
    rw [numb_len, List.length_map, List.take_length] at hi
    walk_at "ds"
    rw [hi]
    exact ⟨_, rfl, rfl⟩
  · exact ⟨[], none, none, none, none, rfl, rfl, Nat.le_refl _, rfl, (fun _ _ h => nomatch h), (fun _ h => nomatch h)⟩
/-! ### the judge -/
theorem check_program_ok {M : Hd} {z u : Nat} {m n k : Int} {xs : List Sp_} (hpr : Prm m) (hb : m < 2000000000) (hT : ∀ x ∈ xs, x.isT = false) (hP : PrgAt M z u m n k xs) : Wp (m_check_program [.ref z] M) (okQ fun d M1 => d = .non ∧ M1 = M) := by
  refine wp_mir rfl ?_
  obtain ⟨e1, e2, e3, e4⟩ := fldP hP.at_
  unfold g_check_program
  walk_at "ds"
  refine wp_if2 (c := False) ?_ (fun h => h.elim) (fun _ => ?_)
  · walk_at "di"
    rw [e1]
    walk_at "di"
    rw [prime_of_eight hpr hb]
    walk_at "di"
    exact ⟨false, rfl, by simp⟩
  walk_at "ds"
  rw [e4]
  walk_at "ds"
  rw [hP.st]
  walk_at "ds"
  refine wp_forL (fun i r M1 => ∃ (a1 : Option D), r = [some (.ref z), a1] ∧ M = M1) ?_ ?_ ?_
  · rintro i d r M1 hd ⟨a1, rfl, rfl⟩
    rw [List.getElem?_map] at hd
    obtain ⟨x, hxi, rfl⟩ := Option.map_eq_some_iff.mp hd
    have hTx := hT x (List.mem_of_getElem? hxi)
    refine ⟨by simp only [still_one, still_nil, and_true]; exact hP.st, _, rfl, ?_⟩
    cases x with
    | table t s c f a b => cases hTx
    | add t c fs => unfold spd; walk_at "sx"; exact ⟨_, rfl⟩
    | scale t c => unfold spd; walk_at "sx"; exact ⟨_, rfl⟩
    | swap t c => unfold spd; walk_at "sx"; exact ⟨_, rfl⟩
  · rintro r M1 ⟨a1, rfl, rfl⟩
    refine ⟨by simp only [still_one, still_nil, and_true]; exact hP.st, ?_⟩
    walk_at "ds"
  · exact ⟨none, rfl, rfl⟩
theorem check_size_ok {M : Hd} {z u p n k : Nat} {xs : List Sp_} (hp : 2 ≤ p) (hkn : k + n < 1000000) (hs : (xs.length + 1) * p ^ (k + n) ≤ 400000) (hP : PrgAt M z u p n k xs) : Wp (m_check_size [.ref z] M) (okQ fun d M1 => d = .non ∧ M1 = M) := by
  refine wp_mir rfl ?_
  obtain ⟨e1, e2, e3, e4⟩ := fldP hP.at_
  unfold g_check_size
  walk_at "ds"
  rw [e4]
  walk_at "ds"
  rw [hP.st]
  walk_at "ds"
  rw [e3]
  walk_at "ds"
  rw [e2]
  walk_at "ds"
  rw [if_smP (by omega)]
  have hb : ∀ i, i ≤ k + n → (xs.length + 1) * p ^ i ≤ 400000 := fun i hi => Nat.le_trans (Nat.mul_le_mul_left _ (Nat.pow_le_pow_right (by omega) hi)) hs
  refine wp_forL (fun i r M1 => ∃ (a2 : Option D), r = [some (.ref z), some (.int ((xs.length + 1) * p ^ i : Nat)), a2] ∧ M = M1) ?_ ?_ ?_
  · rintro i d r M1 hd ⟨a2, rfl, rfl⟩
    obtain ⟨hi, rfl⟩ := ints_get hd
    refine ⟨by simp, _, rfl, ?_⟩
    have h1 := hb i (by omega)
    have h2 := hb (i + 1) (by omega)
    have h3 : (((xs.length + 1) * p ^ i : Nat) : Int) * (p : Int) = (((xs.length + 1) * p ^ (i + 1) : Nat) : Int) := by
      rw [Nat.pow_succ, ← Nat.mul_assoc]
      exact (Int.natCast_mul _ _).symm
    walk_at "ds"
    rw [e1]
    walk_at "ds"
    rw [mulIG_l (by omega)]
    walk_at "ds"
    rw [h3]
    refine wp_if2 (c := False) ?_ (fun h => h.elim) (fun _ => ?_)
    · walk_at "di"
      refine ⟨_, rfl, ?_⟩
      simp only [decide_eq_true_eq, iff_false]
      omega
    · unfold sNil
      rw [wp_some]
      exact ⟨_, rfl, rfl⟩
  · rintro r M1 ⟨a1, rfl, rfl⟩
    refine ⟨by simp, ?_⟩
    walk_at "ds"
  · refine ⟨none, ?_, rfl⟩
    simp
theorem judge_ok {M : Hd} {z u p : Nat} {t : Int} {k n : Nat} {xs : List Sp_} (hpr : Prm p) (hp : 2 ≤ p) (hpb : p < 1000000) (hx : ∀ x ∈ xs, SpOk p n k x) (hT : ∀ x ∈ xs, x.isT = false) (hkn : k + n ≤ 1000) (hs : (xs.length + 1) * p ^ (k + n) ≤ 400000) (ht : 0 ≤ t ∧ t < n) (hP : PrgAt M z u p n k xs) :
    Wp (m_judge [.ref z, .int t] M) (okQ fun d M1 => ∃ X, M1 = M ++ X ∧ WitD M1 n (verd p t k n xs) d) := by
  refine wp_mir rfl ?_
  obtain ⟨e1, e2, e3, e4⟩ := fldP hP.at_
  have hpn : p ^ (k + n) ≤ 400000 := Nat.le_trans (Nat.le_mul_of_pos_left _ (by omega)) hs
  unfold g_judge
  walk_at "ds"
  refine (check_program_ok hpr (by omega) hT hP).ok ?_
  rintro _ M ⟨rfl, rfl⟩
  walk_at "ds"
  refine wp_if2 (c := False) ?_ (fun h => h.elim) (fun _ => ?_)
  · walk_at "di"
    rw [e2]
    walk_at "di"
    rw [is_number_yes ht]
    walk_at "di"
    exact ⟨false, rfl, by simp⟩
  walk_at "ds"
  refine (check_size_ok hp (by omega) hs hP).ok ?_
  rintro _ M ⟨rfl, rfl⟩
  walk_at "ds"
  rw [e1]
  walk_at "ds"
  rw [e3]
  walk_at "ds"
  rw [e2]
  walk_at "ds"
  rw [show (k : Int) + (n : Int) = ((k + n : Nat) : Int) by omega]
  refine (points_of_ok hp hpb hkn (by omega)).ok ?_
  rintro _ _ ⟨q, X, rfl, rfl, hq⟩
  walk_at "ds"
  have hrow : ∀ l ∈ pts p (k + n), l.length = k + n ∧ ∀ v ∈ l, 0 ≤ v ∧ v < (p : Int) := fun l hl => by
    obtain ⟨i, _, rfl⟩ := pts_mem hl
    exact ⟨dig_len, dig_in (by omega)⟩
  have hP1 := hP.app (X := X)
  generalize hM1 : M ++ X = M1 at hq hP1 ⊢
  refine (ends_ok hx hT (by omega) (by omega) hP1 hq (by rw [pts_len]; omega) hrow).ok ?_
  rintro _ _ ⟨cr, X2, rfl, rfl, hC⟩
  have hP2 := hP1.app (X := X2)
  have hq2 := get_old (Z := X2) hq
  obtain ⟨Y2, hM2⟩ : ∃ Y2, M1 ++ X2 = M ++ Y2 := ⟨X ++ X2, by rw [← hM1, List.append_assoc]⟩
  generalize M1 ++ X2 = M2 at hC hP2 hq2 hM2 ⊢
  walk_at "ds"
  refine (spoilt_ok (t := t) hx hT (by omega) hP2 hq2 hrow hC).ok ?_
  rintro d _ ⟨X3, rfl, hw⟩
  have hP3 := hP2.app (X := X3)
  have hq3 := get_old (Z := X3) hq2
  have hC3 := hC.app (X := X3)
  obtain ⟨Y3, hM3⟩ : ∃ Y3, M2 ++ X3 = M ++ Y3 := ⟨Y2 ++ X3, by rw [hM2, List.append_assoc]⟩
  generalize M2 ++ X3 = M3 at hC3 hP3 hq3 hw hM3 ⊢
  walk_at "ds"
  have hv : verd p t k n xs = match fstSp p t k n xs with
    | some w => some w
    | none => fstLk p t k n xs := rfl
  change WitD M3 n (fstSp p t k n xs) d at hw
  cases hf : fstSp p t k n xs with
  | none =>
    rw [hf] at hw hv
    cases hw
    refine wp_if2 (c := True) ?_ (fun _ => ?_) (fun h => (h trivial).elim)
    · walk_at "di"
      exact ⟨true, rfl, by simp⟩
    walk_at "ds"
    refine (leaky_ok (by omega) hx hT (by omega) (by omega) ht hP3 hq3 hC3).ok ?_
    rintro d _ ⟨X4, rfl, hw⟩
    walk_at "ds"
    rw [hv]
    exact ⟨Y3 ++ X4, by rw [hM3, List.append_assoc], hw⟩
  | some w =>
    rw [hf] at hw hv
    have hd : d.isNon = false := by
      cases w with
      | sp gs mem c => obtain ⟨a, b, rfl, _⟩ := hw; rfl
      | lk gs mem => obtain ⟨a, b, c, rfl, _⟩ := hw; rfl
    refine wp_if2 (c := False) ?_ (fun h => h.elim) (fun _ => ?_)
    · simp only [tVal, isN, eVar, wp_bnd, List.getElem?_cons_zero, List.getElem?_cons_succ, wp_some, hd, bOf]
      exact ⟨false, rfl, by simp⟩
    walk_at "ds"
    rw [hv]
    exact ⟨Y3, hM3, hw⟩
/-! ### all points, by the law -/
def RowsAt (M : Hd) (rs : List Nat) (ls : List (List Int)) : Prop := rs.length = ls.length ∧ ∀ (i a : Nat), rs[i]? = some a → ∃ l, ls[i]? = some l ∧ M[a]? = some (.lst (l.map D.int))
theorem RowsAt.app {M X : Hd} {rs : List Nat} {ls : List (List Int)} (h : RowsAt M rs ls) : RowsAt (M ++ X) rs ls := ⟨h.1, fun i a e => let ⟨l, h1, h2⟩ := h.2 i a e; ⟨l, h1, get_old h2⟩⟩
theorem get_off {M Y Z : Hd} {x x' o : O} {a : Nat} (h : (M ++ x :: Y)[a]? = some o) (ha : a ≠ M.length) : (M ++ x' :: (Y ++ Z))[a]? = some o := by
  rcases Nat.lt_or_ge a M.length with h1 | h1
  · rw [List.getElem?_append_left h1] at h ⊢
    exact h
  · rw [List.getElem?_append_right h1] at h ⊢
    obtain ⟨b, hb⟩ : ∃ b, a - M.length = b + 1 := ⟨a - M.length - 1, by omega⟩
    rw [hb, List.getElem?_cons_succ] at h ⊢
    exact get_old h
theorem law_points_ok {p N : Nat} {M : Hd} (hp : 2 ≤ p) (hp2 : p < 1000000) (hN : N ≤ 1000) (hb : p ^ N ≤ 1000000) : Wp (m__law_points [.int p, .int N] M) (okQ fun d M1 => ∃ q rs X, d = .ref q ∧ M1 = M ++ X ∧ M1[q]? = some (.lst (rs.map D.ref)) ∧ RowsAt M1 rs (pts p N)) := by
  refine wp_mir rfl ?_
  unfold g__law_points
  walk_at "ds"
  rw [if_smP (by omega)]
  refine wp_forL (fun i r M1 => ∃ (q : Nat) (rs : List Nat) (X : Hd) (a3 a4 a5 a6 : Option D), r = [some (.int p), some (.int N), some (.ref q), a3, a4, a5, a6] ∧ M1 = M ++ X ∧ M1[q]? = some (.lst (rs.map D.ref)) ∧ RowsAt M1 rs (pts p i)) ?_ ?_ ?_
  · rintro i d r M1 hd ⟨q, rs, X, a3, a4, a5, a6, rfl, rfl, hq, hR⟩
    obtain ⟨hi, rfl⟩ := ints_get hd
    refine ⟨by simp, _, rfl, ?_⟩
    have hpi : p ^ i ≤ 1000000 := Nat.le_trans (Nat.pow_le_pow_right (by omega) (by omega)) hb
    have hpi1 : p ^ (i + 1) ≤ 1000000 := Nat.le_trans (Nat.pow_le_pow_right (by omega) (by omega)) hb
    obtain ⟨M1, hM1⟩ : ∃ M1, M1 = M ++ X := ⟨_, rfl⟩
    rw [← hM1] at hq hR ⊢
    walk_at "ds"
    rw [get_old hq]
    walk_at "ds"
    refine wp_forL (fun j r M2 => ∃ (ns : List Nat) (Y : Hd) (a5 a6 : Option D), r = [some (.int p), some (.int N), some (.ref q), some (.int (0 + (i : Int))), some (.ref M1.length), a5, a6] ∧ M2 = M1 ++ .lst (ns.map D.ref) :: Y ∧ RowsAt M2 ns ((pts p (i + 1)).take (j * p)) ∧ ∀ a ∈ ns, a ≠ M1.length) ?_ ?_ ?_
    · rintro j d r M2 hd ⟨ns, Y, a5, a6, rfl, rfl, hR2, hne⟩
      rw [List.getElem?_map] at hd
      obtain ⟨a, haj, rfl⟩ := Option.map_eq_some_iff.mp hd
      obtain ⟨l, hl1, hl2⟩ := hR.2 j a haj
      obtain ⟨hj, rfl⟩ := pts_at hl1
      refine ⟨by simp only [still_one, still_nil, and_true]; exact get_old hq, _, rfl, ?_⟩
      walk_at "ds"
      rw [if_smP (by omega)]
      refine wp_forL (fun s r M2 => ∃ (ns : List Nat) (Y : Hd) (a6 : Option D), r = [some (.int p), some (.int N), some (.ref q), some (.int (0 + (i : Int))), some (.ref M1.length), some (.ref a), a6] ∧ M2 = M1 ++ .lst (ns.map D.ref) :: Y ∧ RowsAt M2 ns ((pts p (i + 1)).take (j * p + s)) ∧ ∀ a ∈ ns, a ≠ M1.length) ?_ ?_ ?_
      · rintro s d r M2 hd ⟨ns, Y, a6, rfl, rfl, hR2, hne⟩
        obtain ⟨hs, rfl⟩ := ints_get hd
        refine ⟨by simp, _, rfl, ?_⟩
        have hnl : ns.length = j * p + s := by
          rw [hR2.1, List.length_take, pts_len]
          have := idx_lt hj (show s < p by omega)
          omega
        have hlt := idx_lt hj (show s < p by omega)
        have hM3 : M1 ++ .lst (ns.map D.ref) :: Y ++ [.lst [.int (0 + (s : Int))]] ++ [.lst ((dig p i j).map D.int ++ [.int (0 + (s : Int))])] = M1 ++ .lst (ns.map D.ref) :: (Y ++ [.lst [.int (0 + (s : Int))], .lst ((dig p i j).map D.int ++ [.int (0 + (s : Int))])]) := by simp
        walk_at "ds"
        rw [get_here]
        walk_at "ds"
        rw [addG_r, get_old (get_old hl2), get_here]
        dsimp only
        rw [if_pos (by rw [List.length_map, dig_len]; simp; omega), wp_some]
        dsimp only
        rw [hM3, get_here]
        dsimp only
        rw [if_pos (by rw [List.length_map]; omega), wp_some, set_here]
        walk_at "ds"
        have hlen : (M1 ++ O.lst (ns.map D.ref) :: Y ++ [O.lst [D.int (0 + (s : Int))]]).length = M1.length + 1 + Y.length + 1 := by simp; omega
        refine ⟨ns ++ [M1.length + 1 + Y.length + 1], Y ++ [.lst [.int (0 + (s : Int))], .lst ((dig p i j).map D.int ++ [.int (0 + (s : Int))])], _, rfl, ?_, ⟨?_, ?_⟩, ?_⟩
        · rw [hlen, List.map_append]
          rfl
        · rw [← Nat.add_assoc, pts_take hj (by omega), List.length_append, List.length_append, hR2.1]
          rfl
        · intro x b hb
          rw [← Nat.add_assoc, pts_take hj (by omega)]
          rcases Nat.lt_or_ge x ns.length with hx | hx
          · rw [List.getElem?_append_left hx] at hb
            obtain ⟨l, h1, h2⟩ := hR2.2 x b hb
            exact ⟨l, by rw [List.getElem?_append_left (by rw [← hR2.1]; exact hx)]; exact h1, get_off h2 (hne b (List.mem_of_getElem? hb))⟩
          · have hx2 : x = ns.length := by
              have := (List.getElem?_eq_some_iff.mp hb).1
              simp at this
              omega
            subst hx2
            rw [List.getElem?_append_right (Nat.le_refl _), Nat.sub_self] at hb
            cases hb
            refine ⟨dig p i j ++ [(s : Int)], by rw [hR2.1, List.getElem?_append_right (Nat.le_refl _), Nat.sub_self]; rfl, ?_⟩
            rw [hlen, List.getElem?_append_right (by omega), show M1.length + 1 + Y.length + 1 - M1.length = (Y.length + 1) + 1 by omega, List.getElem?_cons_succ, List.getElem?_append_right (by omega), Nat.add_sub_cancel_left, List.map_append, Int.zero_add]
            rfl
        · intro b hb
          rcases List.mem_append.mp hb with hb | hb
          · exact hne b hb
          · rw [List.mem_singleton] at hb
            omega
      · rintro r M2 ⟨ns, Y, a6, rfl, rfl, hR2, hne⟩
        refine ⟨by simp, ?_⟩
        rw [ints_length, Int.toNat_natCast] at hR2
        refine ⟨ns, Y, _, _, rfl, rfl, ?_, hne⟩
        rw [Nat.add_mul, Nat.one_mul]
        exact hR2
      · exact ⟨ns, Y, _, rfl, rfl, hR2, hne⟩
    · rintro r M2 ⟨ns, Y, a5, a6, rfl, rfl, hR2, hne⟩
      refine ⟨by simp only [still_one, still_nil, and_true]; exact get_old hq, ?_⟩
      rw [List.length_map, hR.1, pts_len, ← Nat.pow_succ, List.take_of_length_le (by rw [pts_len]; exact Nat.le_refl _)] at hR2
      walk_at "ds"
      exact ⟨_, ns, X ++ .lst (ns.map D.ref) :: Y, _, _, _, _, rfl, by rw [hM1, List.append_assoc], get_here, hR2⟩
    · exact ⟨[], [], _, _, rfl, rfl, ⟨by simp, fun x b hb => nomatch hb⟩, fun a h => nomatch h⟩
  · rintro r M1 ⟨q, rs, X, a3, a4, a5, a6, rfl, rfl, hq, hR⟩
    refine ⟨by simp, ?_⟩
    rw [ints_length, Int.toNat_natCast] at hR
    walk_at "ds"
    exact ⟨q, rs, X, rfl, rfl, hq, hR⟩
  · refine ⟨M.length + 1, [M.length], [.lst [], .lst [.ref M.length]], none, none, none, none, by simp, by simp, by simp, rfl, ?_⟩
    intro x b hb
    cases x with
    | zero => cases hb; exact ⟨[], rfl, by simp⟩
    | succ x => cases hb
/-! ### the law's own verdict -/
theorem row_lo {k n : Nat} {l : List Int} (hl : l.length = k + n) : ((l.take k).length : Int) = k ∧ ((l.drop k).length : Int) = n := by
  rw [List.length_take, List.length_drop]
  omega
theorem row_in {m : Int} {k : Nat} {l : List Int} (h : ∀ v ∈ l, 0 ≤ v ∧ v < m) : (∀ v ∈ l.take k, 0 ≤ v ∧ v < m) ∧ ∀ v ∈ l.drop k, 0 ≤ v ∧ v < m := ⟨fun v hv => h v (List.mem_of_mem_take hv), fun v hv => h v (List.mem_of_mem_drop hv)⟩
theorem sr_hi {l : List Int} {k a : Nat} {M : Hd} (hl : M[a]? = some (.lst (l.map D.int))) (h : k ≤ l.length) : sliceD (.ref a) (some (k : Int)) none M = some (.ok (.ref M.length) (M ++ [.lst ((l.drop k).map D.int)])) := by
  rw [slice_ref hl, cut_from (by rw [List.length_map]; omega), Int.toNat_natCast, drop_ints]
theorem sr_lo {l : List Int} {k a : Nat} {M : Hd} (hl : M[a]? = some (.lst (l.map D.int))) (h : k ≤ l.length) : sliceD (.ref a) none (some (k : Int)) M = some (.ok (.ref M.length) (M ++ [.lst ((l.take k).map D.int)])) := by
  rw [slice_ref hl, cut_to (by rw [List.length_map]; omega), Int.toNat_natCast, take_ints]
theorem law_first_spoilt_ok {M : Hd} {s p : Nat} {t : Int} {k n : Nat} {xs : List Sp_} (hp : 2 ≤ p) (hpb : p < 1000000) (hx : ∀ x ∈ xs, SpOk p n k x) (hT : ∀ x ∈ xs, x.isT = false) (hkn : k + n ≤ 1000) (hb : p ^ (k + n) ≤ 1000000) (hs : M[s]? = some (.lst (xs.map spd))) :
    Wp (m__law_first_spoilt [.int p, .int k, .int n, .ref s, .int t] M) (okQ fun d M1 => ∃ X, M1 = M ++ X ∧ WitD M1 n (fstSp p t k n xs) d) := by
  refine wp_mir rfl ?_
  unfold g__law_first_spoilt
  walk_at "ds"
  rw [show (k : Int) + (n : Int) = ((k + n : Nat) : Int) by omega]
  refine (law_points_ok hp hpb hkn hb).ok ?_
  rintro _ _ ⟨q, rs, X0, rfl, rfl, hq, hR⟩
  walk_at "ds"
  rw [hq]
  walk_at "ds"
  unfold fstSp
  have hs := get_old (Z := X0) hs
  obtain ⟨M0, hM0⟩ : ∃ M0, M0 = M ++ X0 := ⟨_, rfl⟩
  rw [← hM0] at hq hR hs ⊢
  refine wp_forL (fun i r M1 => ∃ (X : Hd) (a5 a6 a7 : Option D), r = [some (.int p), some (.int k), some (.int n), some (.ref s), some (.int t), a5, a6, a7] ∧ M1 = M0 ++ X ∧ ((pts p (k + n)).take i).findSome? (spW p t k n xs) = none) ?_ ?_ ?_
  · rintro i d r M1 hd ⟨X, a5, a6, a7, rfl, rfl, hi⟩
    rw [List.getElem?_map] at hd
    obtain ⟨a, hai, rfl⟩ := Option.map_eq_some_iff.mp hd
    obtain ⟨l, hli, hla⟩ := hR.2 i a hai
    obtain ⟨hip, hdl⟩ := pts_at hli
    have hll : l.length = k + n := by rw [hdl]; exact dig_len
    have hlv : ∀ v ∈ l, 0 ≤ v ∧ v < (p : Int) := by rw [hdl]; exact dig_in (by omega)
    obtain ⟨hk1, hn1⟩ := row_lo hll
    obtain ⟨hv1, hv2⟩ := row_in (k := k) hlv
    refine ⟨by simp only [still_one, still_nil, and_true]; exact get_old hq, _, rfl, ?_⟩
    walk_at "ds"
    have g1 := get_old (Z := X) hla
    rw [sr_hi g1 (by omega)]
    walk_at "ds"
    rw [sr_lo (get_old g1) (by omega)]
    walk_at "ds"
    refine (run7_ok (M := M0 ++ X ++ [O.lst ((l.drop k).map D.int)] ++ [O.lst ((l.take k).map D.int)]) (by omega) hx hT (get_old (get_old (get_old hs))) (get_old get_here) get_here hn1 hk1 hv2).ok ?_
    rintro _ _ ⟨rfl, X4, rfl⟩
    have hri := ran_inv (gs := l.take k) (show (0 : Int) < p by omega) xs (l.drop k) hv2
    have g6 := get_here (M := M0 ++ X ++ [O.lst ((l.drop k).map D.int)] ++ [O.lst ((l.take k).map D.int)]) (o := O.lst ((ran p (l.take k) (l.drop k) xs).map D.int)) (Z := X4)
    generalize (M0 ++ X ++ [O.lst ((l.drop k).map D.int)] ++ [O.lst ((l.take k).map D.int)]).length = q6 at g6 ⊢
    have g1 := get_old (Z := [O.lst ((l.drop k).map D.int)] ++ [O.lst ((l.take k).map D.int)] ++ O.lst ((ran p (l.take k) (l.drop k) xs).map D.int) :: X4) g1
    have e4 : M0 ++ X ++ [O.lst ((l.drop k).map D.int)] ++ [O.lst ((l.take k).map D.int)] ++ O.lst ((ran p (l.take k) (l.drop k) xs).map D.int) :: X4 = M0 ++ X ++ ([O.lst ((l.drop k).map D.int)] ++ [O.lst ((l.take k).map D.int)] ++ O.lst ((ran p (l.take k) (l.drop k) xs).map D.int) :: X4) := by simp
    rw [e4] at g6 ⊢
    obtain ⟨Y, hY⟩ : ∃ Y, M0 ++ X ++ ([O.lst ((l.drop k).map D.int)] ++ [O.lst ((l.take k).map D.int)] ++ O.lst ((ran p (l.take k) (l.drop k) xs).map D.int) :: X4) = M0 ++ Y := ⟨_, List.append_assoc ..⟩
    rw [hY] at g1 g6 ⊢
    clear hY e4
    walk_at "ds"
    rw [if_smP (by omega)]
    refine wp_forL (fun c r M1 => ∃ (a7 : Option D), r = [some (.int p), some (.int k), some (.int n), some (.ref s), some (.int t), some (.ref a), some (.ref q6), a7] ∧ M1 = M0 ++ Y ∧ (((List.range n).map fun (c : Nat) => (c : Int)).take c).findSome? (fun c => if c ≠ t ∧ cg (ran p (l.take k) (l.drop k) xs) c ≠ cg (l.drop k) c then some c else none) = none) ?_ ?_ ?_
    · rintro c d r M1 hd ⟨a7, rfl, rfl, hc⟩
      obtain ⟨hcn, rfl⟩ := ints_get hd
      rw [Int.toNat_natCast] at hcn
      refine ⟨by simp, _, rfl, ?_⟩
      have hgc : ((List.range n).map fun (c : Nat) => (c : Int))[c]? = some (c : Int) := by
        rw [List.getElem?_map, List.getElem?_range hcn]
        rfl
      rw [Int.zero_add]
      refine wp_if2 (c := (c : Int) ≠ t ∧ cg (ran p (l.take k) (l.drop k) xs) c ≠ cg (l.drop k) c) ?_ (fun h => ?_) (fun h => ?_)
      · walk_at "di"
        by_cases h1 : (c : Int) = t
        · simp [h1]
        · rw [if_pos h1, g6]
          dsimp only
          rw [atI_cs (cs := ran p (l.take k) (l.drop k) xs) (c := c) (by rw [hri.1]; omega)]
          walk_at "di"
          rw [g1]
          dsimp only
          rw [atI_cs (cs := l) (c := (k : Int) + c) (by omega)]
          rw [row_hi hll (show (0 : Int) ≤ c by omega)]
          walk_at "di"
          by_cases h2 : cg (ran p (l.take k) (l.drop k) xs) c = cg (l.drop k) c <;> simp [h1, h2]
      · walk_at "ds"
        rw [sr_lo g1 (by omega)]
        walk_at "ds"
        rw [sr_hi (get_old g1) (by omega)]
        walk_at "ds"
        have hbad : badC n t (l.drop k) (ran p (l.take k) (l.drop k) xs) = some (c : Int) := fs_hit hc hgc (if_pos h)
        rw [fs_hit hi hli (w := .sp (l.take k) (l.drop k) c) (by unfold spW; rw [hbad]; rfl)]
        exact ⟨X0 ++ Y ++ [O.lst ((l.take k).map D.int)] ++ [O.lst ((l.drop k).map D.int)], by rw [hM0]; simp, _, _, rfl, get_old get_here, get_here⟩
      · unfold sNil
        rw [wp_some]
        exact ⟨_, rfl, rfl, fs_miss hc hgc (if_neg h)⟩
    · rintro r M1 ⟨a7, rfl, rfl, hc⟩
      refine ⟨by simp, ?_⟩
      rw [ints_length, Int.toNat_natCast] at hc
      rw [List.take_of_length_le (l := (List.range n).map fun (c : Nat) => (c : Int)) (by simp)] at hc
      exact ⟨_, _, _, _, rfl, rfl, fs_miss hi hli (by unfold spW; rw [show badC n t (l.drop k) (ran p (l.take k) (l.drop k) xs) = none from hc]; rfl)⟩
    · exact ⟨_, rfl, rfl, rfl⟩
  · rintro r M1 ⟨X, a5, a6, a7, rfl, rfl, hi⟩
    refine ⟨by simp only [still_one, still_nil, and_true]; exact get_old hq, ?_⟩
    rw [List.length_map, hR.1, List.take_length] at hi
    walk_at "ds"
    rw [hi]
    exact ⟨X0 ++ X, by rw [hM0, List.append_assoc], rfl⟩
  · exact ⟨[], _, _, _, rfl, by simp, rfl⟩
theorem cg_zero {n : Nat} {t : Int} : cg (List.replicate n 0) t = 0 := by
  unfold cg
  rw [List.getD_eq_getElem?_getD, List.getElem?_replicate]
  split <;> rfl
theorem law_first_leaky_ok {M : Hd} {s p : Nat} {t : Int} {k n : Nat} {xs : List Sp_} (hp : 2 ≤ p) (hpb : p < 1000000) (hx : ∀ x ∈ xs, SpOk p n k x) (hT : ∀ x ∈ xs, x.isT = false) (hkn : k + n ≤ 1000) (hb : p ^ (k + n) ≤ 1000000) (ht : 0 ≤ t ∧ t < n) (hs : M[s]? = some (.lst (xs.map spd))) :
    Wp (m__law_first_leaky [.int p, .int k, .int n, .ref s, .int t] M) (okQ fun d M1 => ∃ X, M1 = M ++ X ∧ WitD M1 n (fstLk p t k n xs) d) := by
  refine wp_mir rfl ?_
  unfold g__law_first_leaky
  walk_at "ds"
  rw [zeros_ok (n := n) (by omega) (by
    unfold rng1 eVar
    simp only [List.getElem?_cons_zero, List.getElem?_cons_succ, bnd_ok]
    rw [if_sm (by omega), Int.toNat_natCast])]
  walk_at "ds"
  rw [show (k : Int) + (n : Int) = ((k + n : Nat) : Int) by omega]
  refine (law_points_ok hp hpb hkn hb).ok ?_
  rintro _ _ ⟨q, rs, X0, rfl, rfl, hq, hR⟩
  walk_at "ds"
  rw [hq]
  walk_at "ds"
  unfold fstLk
  have hs := get_old (Z := X0) (get_old (Z := [O.lst ((List.replicate n (0 : Int)).map D.int)]) hs)
  have hz := get_old (Z := X0) (get_here (M := M) (o := O.lst ((List.replicate n (0 : Int)).map D.int)) (Z := []))
  generalize hcl : M.length = cl at hz ⊢
  obtain ⟨M0, hM0⟩ : ∃ M0, M0 = M ++ [O.lst ((List.replicate n (0 : Int)).map D.int)] ++ X0 := ⟨_, rfl⟩
  rw [← hM0] at hq hR hs hz ⊢
  refine wp_forL (fun i r M1 => ∃ (X : Hd) (a6 a7 a8 : Option D), r = [some (.int p), some (.int k), some (.int n), some (.ref s), some (.int t), some (.ref cl), a6, a7, a8, none] ∧ M1 = M0 ++ X ∧ ((pts p (k + n)).take i).findSome? (lkW p t k n xs) = none) ?_ ?_ ?_
  · rintro i d r M1 hd ⟨X, a6, a7, a8, rfl, rfl, hi⟩
    rw [List.getElem?_map] at hd
    obtain ⟨a, hai, rfl⟩ := Option.map_eq_some_iff.mp hd
    obtain ⟨l, hli, hla⟩ := hR.2 i a hai
    obtain ⟨hip, hdl⟩ := pts_at hli
    have hll : l.length = k + n := by rw [hdl]; exact dig_len
    have hlv : ∀ v ∈ l, 0 ≤ v ∧ v < (p : Int) := by rw [hdl]; exact dig_in (by omega)
    obtain ⟨hk1, hn1⟩ := row_lo hll
    obtain ⟨hv1, hv2⟩ := row_in (k := k) hlv
    have hzl : ((List.replicate n (0 : Int)).length : Int) = n := by rw [List.length_replicate]
    have hzv : ∀ v ∈ List.replicate n (0 : Int), 0 ≤ v ∧ v < (p : Int) := fun v hv => by
      rw [List.eq_of_mem_replicate hv]
      omega
    refine ⟨by simp only [still_one, still_nil, and_true]; exact get_old hq, _, rfl, ?_⟩
    walk_at "ds"
    have g1 := get_old (Z := X) hla
    have gz := get_old (Z := X) hz
    have gs := get_old (Z := X) hs
    rw [sr_lo g1 (by omega)]
    walk_at "ds"
    refine (run7_ok (by omega) hx hT (get_old gs) (get_old gz) get_here hzl hk1 hzv).ok ?_
    rintro _ _ ⟨rfl, X4, rfl⟩
    have hri := ran_inv (gs := l.take k) (show (0 : Int) < p by omega) xs (List.replicate n 0) hzv
    walk_at "ds"
    rw [get_here]
    dsimp only
    rw [atI_cs (cs := ran p (l.take k) (List.replicate n 0) xs) (c := t) (by rw [hri.1]; omega)]
    have e4 : M0 ++ X ++ [O.lst ((l.take k).map D.int)] ++ O.lst ((ran p (l.take k) (List.replicate n 0) xs).map D.int) :: X4 = M0 ++ (X ++ [O.lst ((l.take k).map D.int)] ++ O.lst ((ran p (l.take k) (List.replicate n 0) xs).map D.int) :: X4) := by simp
    rw [e4]
    generalize X ++ [O.lst ((l.take k).map D.int)] ++ O.lst ((ran p (l.take k) (List.replicate n 0) xs).map D.int) :: X4 = Y
    clear e4
    walk_at "ds"
    have g1 := get_old (Z := Y) hla
    have gs := get_old (Z := Y) hs
    rw [sr_hi g1 (by omega)]
    walk_at "ds"
    rw [sr_lo (get_old g1) (by omega)]
    walk_at "ds"
    refine (run7_ok (M := M0 ++ Y ++ [O.lst ((l.drop k).map D.int)] ++ [O.lst ((l.take k).map D.int)]) (by omega) hx hT (get_old (get_old gs)) (get_old get_here) get_here hn1 hk1 hv2).ok ?_
    rintro _ _ ⟨rfl, X5, rfl⟩
    have hri2 := ran_inv (gs := l.take k) (show (0 : Int) < p by omega) xs (l.drop k) hv2
    walk_at "ds"
    rw [get_here]
    dsimp only
    rw [atI_cs (cs := ran p (l.take k) (l.drop k) xs) (c := t) (by rw [hri2.1]; omega)]
    have e4 : M0 ++ Y ++ [O.lst ((l.drop k).map D.int)] ++ [O.lst ((l.take k).map D.int)] ++ O.lst ((ran p (l.take k) (l.drop k) xs).map D.int) :: X5 = M0 ++ (Y ++ [O.lst ((l.drop k).map D.int)] ++ [O.lst ((l.take k).map D.int)] ++ O.lst ((ran p (l.take k) (l.drop k) xs).map D.int) :: X5) := by simp
    rw [e4]
    generalize Y ++ [O.lst ((l.drop k).map D.int)] ++ [O.lst ((l.take k).map D.int)] ++ O.lst ((ran p (l.take k) (l.drop k) xs).map D.int) :: X5 = Z
    clear e4 g1 gs gz
    have g1 := get_old (Z := Z) hla
    walk_at "ds"
    have hz0 : chg p t xs (l.take k) (l.drop k) = chg p t xs (l.take k) (List.replicate n 0) ↔ (cg (ran p (l.take k) (l.drop k) xs) t - cg l (k + t) - cg (ran p (l.take k) (List.replicate n 0) xs) t) % p = 0 := by
      unfold chg
      rw [row_hi hll ht.1, cg_zero, Int.sub_zero]
      exact Int.emod_eq_emod_iff_emod_sub_eq_zero
    refine wp_if2 (c := ¬ (cg (ran p (l.take k) (l.drop k) xs) t - cg l (k + t) - cg (ran p (l.take k) (List.replicate n 0) xs) t) % p = 0) ?_ (fun h => ?_) (fun h => ?_)
    · walk_at "di"
      rw [g1]
      dsimp only
      rw [atI_cs (cs := l) (c := (k : Int) + t) (by omega)]
      walk_at "di"
      rw [modG_ok (by omega)]
      walk_at "di"
      exact ⟨_, rfl, by simp⟩
    · walk_at "ds"
      rw [sr_lo g1 (by omega)]
      walk_at "ds"
      rw [sr_hi (get_old g1) (by omega)]
      walk_at "ds"
      rw [fs_hit hi hli (w := .lk (l.take k) (l.drop k)) (by unfold lkW; rw [if_pos (fun e => h (hz0.mp e))])]
      exact ⟨[O.lst ((List.replicate n (0 : Int)).map D.int)] ++ X0 ++ Z ++ [O.lst ((l.take k).map D.int)] ++ [O.lst ((l.drop k).map D.int)], by rw [hM0]; simp, _, _, _, rfl, get_old get_here, get_old (get_old (get_old hz)), get_here⟩
    · unfold sNil
      rw [wp_some]
      exact ⟨_, _, _, _, rfl, rfl, fs_miss hi hli (by unfold lkW; rw [if_neg (fun e => e (hz0.mpr (Classical.not_not.mp h)))])⟩
  · rintro r M1 ⟨X, a6, a7, a8, rfl, rfl, hi⟩
    refine ⟨by simp only [still_one, still_nil, and_true]; exact get_old hq, ?_⟩
    rw [List.length_map, hR.1, List.take_length] at hi
    walk_at "ds"
    rw [hi]
    exact ⟨[O.lst ((List.replicate n (0 : Int)).map D.int)] ++ X0 ++ X, by rw [hM0]; simp, rfl⟩
  · exact ⟨[], _, _, _, rfl, by simp, rfl⟩
theorem law_verdict_ok {M : Hd} {s p : Nat} {t : Int} {k n : Nat} {xs : List Sp_} (hp : 2 ≤ p) (hpb : p < 1000000) (hx : ∀ x ∈ xs, SpOk p n k x) (hT : ∀ x ∈ xs, x.isT = false) (hkn : k + n ≤ 1000) (hb : p ^ (k + n) ≤ 1000000) (ht : 0 ≤ t ∧ t < n) (hs : M[s]? = some (.lst (xs.map spd))) :
    Wp (m__law_verdict [.int p, .int k, .int n, .ref s, .int t] M) (okQ fun d M1 => ∃ X, M1 = M ++ X ∧ WitD M1 n (verd p t k n xs) d) := by
  refine wp_mir rfl ?_
  unfold g__law_verdict
  walk_at "ds"
  refine (law_first_spoilt_ok (t := t) hp hpb hx hT hkn hb hs).ok ?_
  rintro d _ ⟨X, rfl, hw⟩
  walk_at "ds"
  have hv : verd p t k n xs = match fstSp p t k n xs with
    | some w => some w
    | none => fstLk p t k n xs := rfl
  cases hf : fstSp p t k n xs with
  | none =>
    rw [hf] at hw hv
    cases hw
    refine wp_if2 (c := True) ?_ (fun _ => ?_) (fun h => (h trivial).elim)
    · walk_at "di"
      exact ⟨true, rfl, by simp⟩
    walk_at "ds"
    refine (law_first_leaky_ok hp hpb hx hT hkn hb ht (get_old hs)).ok ?_
    rintro d _ ⟨X4, rfl, hw⟩
    walk_at "ds"
    rw [hv]
    exact ⟨X ++ X4, by rw [List.append_assoc], hw⟩
  | some w =>
    rw [hf] at hw hv
    have hd : d.isNon = false := by
      cases w with
      | sp gs mem c => obtain ⟨a, b, rfl, _⟩ := hw; rfl
      | lk gs mem => obtain ⟨a, b, c, rfl, _⟩ := hw; rfl
    refine wp_if2 (c := False) ?_ (fun h => h.elim) (fun _ => ?_)
    · simp only [tVal, isN, eVar, wp_bnd, List.getElem?_cons_zero, List.getElem?_cons_succ, wp_some, hd, bOf]
      exact ⟨false, rfl, by simp⟩
    walk_at "ds"
    rw [hv]
    exact ⟨X, rfl, hw⟩
/-! ### clean programs, plainly -/
structure Vl (p : Int) (n : Nat) (l : List Int) : Prop where
  len : l.length = n
  bd : ∀ v ∈ l, 0 ≤ v ∧ v < p
def ClS (p : Nat) (t : Int) (k n : Nat) (xs : List Sp_) : Prop := ∀ gs mem, Vl p k gs → Vl p n mem → (∀ c : Int, 0 ≤ c → c < n → c ≠ t → cg (ran p gs mem xs) c = cg mem c) ∧ chg p t xs gs mem = chg p t xs gs (List.replicate n 0)
theorem vl_zero {p : Nat} {n : Nat} (hp : 0 < p) : Vl p n (List.replicate n 0) := ⟨List.length_replicate, fun v hv => by rw [List.eq_of_mem_replicate hv]; omega⟩
theorem Vl.ran {p : Nat} {n : Nat} {gs mem : List Int} {xs : List Sp_} (hp : 0 < p) (h : Vl p n mem) : Vl p n (ran p gs mem xs) := by
  obtain ⟨a, b⟩ := ran_inv (gs := gs) (show (0 : Int) < p by omega) xs mem h.bd
  exact ⟨a.trans h.len, b⟩
theorem verd_none {p k n : Nat} {t : Int} {xs : List Sp_} (hp : 0 < p) : verd p t k n xs = none ↔ ClS p t k n xs := by
  have key : verd p t k n xs = none ↔ (∀ l ∈ pts p (k + n), spW p t k n xs l = none) ∧ ∀ l ∈ pts p (k + n), lkW p t k n xs l = none := by
    unfold verd
    cases h : fstSp p t k n xs with
    | some w =>
      constructor
      · intro e; cases e
      · rintro ⟨a, _⟩
        have : fstSp p t k n xs = none := fs_none.mpr a
        rw [this] at h
        cases h
    | none =>
      have h1 := fs_none.mp (show (pts p (k + n)).findSome? (spW p t k n xs) = none from h)
      constructor
      · intro e
        exact ⟨h1, fs_none.mp (show (pts p (k + n)).findSome? (lkW p t k n xs) = none from e)⟩
      · rintro ⟨_, b⟩
        exact fs_none.mpr b
  rw [key]
  constructor
  · rintro ⟨h1, h2⟩ gs mem hg hm
    obtain ⟨i, hi, hd⟩ := dig_surj (p := p) (N := k + n) (pt := gs ++ mem) (by rw [List.length_append, hg.len, hm.len]) (fun v hv => (List.mem_append.mp hv).elim (hg.bd v) (hm.bd v))
    have hmem : gs ++ mem ∈ pts p (k + n) := by
      rw [← hd]
      exact List.mem_map_of_mem (List.mem_range.mpr hi)
    have a := h1 _ hmem
    have b := h2 _ hmem
    unfold spW at a
    unfold lkW at b
    rw [List.take_left' hg.len, List.drop_left' hg.len] at a b
    refine ⟨badC_none.mp (Option.map_eq_none_iff.mp a), ?_⟩
    split at b
    · cases b
    · rename_i h
      exact Classical.not_not.mp h
  · intro h
    have val : ∀ l ∈ pts p (k + n), Vl p k (l.take k) ∧ Vl p n (l.drop k) := fun l hl => by
      obtain ⟨i, _, rfl⟩ := pts_mem hl
      have hb := dig_in (p := p) (N := k + n) (i := i) hp
      exact ⟨⟨by rw [List.length_take, dig_len]; omega, fun v hv => hb v (List.mem_of_mem_take hv)⟩, ⟨by rw [List.length_drop, dig_len]; omega, fun v hv => hb v (List.mem_of_mem_drop hv)⟩⟩
    refine ⟨fun l hl => ?_, fun l hl => ?_⟩
    · obtain ⟨a, b⟩ := val l hl
      unfold spW
      rw [badC_none.mpr (h _ _ a b).1]
      rfl
    · obtain ⟨a, b⟩ := val l hl
      unfold lkW
      rw [if_neg (fun e => e (h _ _ a b).2)]
theorem chg_app {p : Nat} {t : Int} {gs mem : List Int} {xs ys : List Sp_} : chg p t (xs ++ ys) gs mem = (chg p t ys gs (ran p gs mem xs) + chg p t xs gs mem) % p := by
  unfold chg
  rw [ran_app, ← Int.add_emod]
  congr 1
  omega
theorem ClS.app {p k n : Nat} {t : Int} {xs ys : List Sp_} (hp : 0 < p) (h : ClS p t k n xs) (g : ClS p t k n ys) : ClS p t k n (xs ++ ys) := by
  intro gs mem hg hm
  have hm1 := hm.ran (gs := gs) (xs := xs) hp
  have hz := vl_zero (n := n) hp
  have hz1 := hz.ran (gs := gs) (xs := xs) hp
  obtain ⟨a1, b1⟩ := h gs mem hg hm
  obtain ⟨a2, b2⟩ := g gs _ hg hm1
  obtain ⟨_, b3⟩ := g gs _ hg hz1
  refine ⟨fun c h0 h1 hc => ?_, ?_⟩
  · rw [ran_app, a2 c h0 h1 hc, a1 c h0 h1 hc]
  · rw [chg_app, chg_app, b1, b2, b3]
/-! ### what the judge finds refutes -/
theorem badC_some {n : Nat} {t c : Int} {mem aft : List Int} (h : badC n t mem aft = some c) : (0 ≤ c ∧ c < n) ∧ c ≠ t ∧ cg aft c ≠ cg mem c := by
  unfold badC at h
  obtain ⟨x, hx, e⟩ := List.exists_of_findSome?_eq_some h
  obtain ⟨i, hi, rfl⟩ := List.mem_map.mp hx
  have hi := List.mem_range.mp hi
  split at e
  · rename_i hc
    cases e
    exact ⟨by omega, hc⟩
  · cases e
/-- what a witness of the verdict says -/
def WitOk (p : Nat) (t : Int) (k n : Nat) (xs : List Sp_) : Wit → Prop
  | .sp gs mem c => ((gs.length : Int) = k ∧ ∀ v ∈ gs, 0 ≤ v ∧ v < (p : Int)) ∧ ((mem.length : Int) = n ∧ ∀ v ∈ mem, 0 ≤ v ∧ v < (p : Int)) ∧ (0 ≤ c ∧ c < (n : Int)) ∧ c ≠ t ∧ cg (ran p gs mem xs) c ≠ cg mem c
  | .lk gs mem => ((gs.length : Int) = k ∧ ∀ v ∈ gs, 0 ≤ v ∧ v < (p : Int)) ∧ ((mem.length : Int) = n ∧ ∀ v ∈ mem, 0 ≤ v ∧ v < (p : Int)) ∧ chg p t xs gs mem ≠ chg p t xs gs (List.replicate n 0)
theorem verd_ok {p k n : Nat} {t : Int} {xs : List Sp_} {w : Wit} (hp : 0 < p) (h : verd p t k n xs = some w) : WitOk p t k n xs w := by
  have val : ∀ l ∈ pts p (k + n), (((l.take k).length : Int) = k ∧ ∀ v ∈ l.take k, 0 ≤ v ∧ v < (p : Int)) ∧ (((l.drop k).length : Int) = n ∧ ∀ v ∈ l.drop k, 0 ≤ v ∧ v < (p : Int)) := fun l hl => by
    obtain ⟨i, _, rfl⟩ := pts_mem hl
    have hb := dig_in (p := p) (N := k + n) (i := i) hp
    exact ⟨⟨by rw [List.length_take, dig_len]; omega, fun v hv => hb v (List.mem_of_mem_take hv)⟩, ⟨by rw [List.length_drop, dig_len]; omega, fun v hv => hb v (List.mem_of_mem_drop hv)⟩⟩
  unfold verd at h
  split at h
  · rename_i w' hw
    cases h
    obtain ⟨l, hl, e⟩ := List.exists_of_findSome?_eq_some hw
    unfold spW at e
    obtain ⟨c, hc, rfl⟩ := Option.map_eq_some_iff.mp e
    obtain ⟨a, b⟩ := val l hl
    obtain ⟨c1, c2⟩ := badC_some hc
    exact ⟨a, b, c1, c2⟩
  · obtain ⟨l, hl, e⟩ := List.exists_of_findSome?_eq_some h
    unfold lkW at e
    split at e
    · rename_i hne
      cases e
      obtain ⟨a, b⟩ := val l hl
      exact ⟨a, b, hne⟩
    · cases e
theorem found_refutes {M : Hd} {z u p k n : Nat} {t : Int} {xs : List Sp_} {w : Wit} {d : D} (ok : PgOk p n k xs 20000) (hP : PrgAt M z u p n k xs) (ht : 0 ≤ t ∧ t < (n : Int)) (hw : WitOk p t k n xs w) (h : WitD M n (some w) d) :
    Wp (m_refutes [.ref z, .int t, d] M) (okQ fun e M1 => e = .bl true ∧ ∃ X, M1 = M ++ X) := by
  cases w with
  | sp gs mem c =>
    obtain ⟨a, b, rfl, h1, h2⟩ := h
    obtain ⟨⟨g1, g2⟩, ⟨m1, m2⟩, hc, hne, hd⟩ := hw
    have := refutes_ok hP.at_ ht rfl (shows_spoilt_ok (t := t) ok hP h2 h1 m1 g1 m2 g2 hc)
    obtain ⟨o, e, q⟩ := this
    refine ⟨o, e, ?_⟩
    cases o with
    | er c M1 => exact q
    | ok d1 M1 =>
      refine ⟨?_, q.2⟩
      rw [q.1]
      simp [hne, hd]
  | lk gs mem =>
    obtain ⟨a, b, c, rfl, h1, h2, h3⟩ := h
    obtain ⟨⟨g1, g2⟩, ⟨m1, m2⟩, hd⟩ := hw
    have hm := ok.hm
    have := refutes_ok hP.at_ ht rfl (shows_leaky_ok (t := t) ok hP h2 h3 h1 (by rw [List.length_replicate]) m1 g1 (fun v hv => by rw [List.eq_of_mem_replicate hv]; omega) m2 g2 ht)
    obtain ⟨o, e, q⟩ := this
    refine ⟨o, e, ?_⟩
    cases o with
    | er c M1 => exact q
    | ok d1 M1 =>
      refine ⟨?_, q.2⟩
      rw [q.1]
      unfold chg at hd
      simp only [ne_eq, D.bl.injEq, decide_eq_true_eq]
      exact fun e => hd e.symm
/-! ### witnesses that are none -/
def BadX (M : Hd) (n m : Int) (d : D) : Prop := BadV M n m d ∨ d.flat = true
theorem BadX.app {M X : Hd} {n m : Int} {d : D} (h : BadX M n m d) : BadX (M ++ X) n m d := by
  rcases h with (⟨ds, rfl⟩ | ⟨i, ds, rfl, h1, h2⟩) | h
  · exact .inl (.inl ⟨ds, rfl⟩)
  · exact .inl (.inr ⟨i, ds, rfl, get_old h1, h2⟩)
  · exact .inr h
def GoodL (M : Hd) (n m : Int) (q : Nat) : Prop := ∃ mem : List Int, M[q]? = some (.lst (mem.map D.int)) ∧ (mem.length : Int) = n ∧ ∀ v ∈ mem, 0 ≤ v ∧ v < m
inductive BadW (M : Hd) (m n k t : Int) : D → Prop
  | notup {d : D} {ty : Ty} (h : tyD d M = some ty) (hn : ty.sub .tup = false) : BadW M m n k t d
  | len {l : List D} (h : l.length ≠ 4) : BadW M m n k t (.tup l)
  | word {w0 w1 w2 w3 : D} (h : w0.flat = true) (h1 : w0 ≠ .str "spoilt") (h2 : w0 ≠ .str "leaky") : BadW M m n k t (.tup [w0, w1, w2, w3])
  | spL {w1 w2 w3 : D} (h : w3.flat = true) (h1 : numB n w3 = false) : BadW M m n k t (.tup [.str "spoilt", w1, w2, w3])
  | spM {w1 w2 : D} {c : Int} (h : BadX M n m w2) : BadW M m n k t (.tup [.str "spoilt", w1, w2, .int c])
  | spG {w1 : D} {q : Nat} {c : Int} (h : GoodL M n m q) (h1 : BadX M k m w1) : BadW M m n k t (.tup [.str "spoilt", w1, .ref q, .int c])
  | lkM {w1 w2 w3 : D} (h : BadX M n m w2) : BadW M m n k t (.tup [.str "leaky", w1, w2, w3])
  | lkG {w1 w3 : D} {q : Nat} (h : GoodL M n m q) (h1 : BadX M k m w1) : BadW M m n k t (.tup [.str "leaky", w1, .ref q, w3])
  | lkL {w3 : D} {g q : Nat} (h : GoodL M n m q) (h1 : GoodL M k m g) (h2 : BadX M n m w3) : BadW M m n k t (.tup [.str "leaky", .ref g, .ref q, w3])
/-! ### compiled programs, plainly -/
/-- steps that add, and no others -/
def AdOk (m n k : Int) (xs : List Sp_) : Prop := ∀ x ∈ xs, SpOk m n k x ∧ ∃ t c fs, x = .add t c fs
theorem AdOk.noT {m n k : Int} {xs : List Sp_} (h : AdOk m n k xs) : ∀ x ∈ xs, x.isT = false := fun x hx => by
  obtain ⟨_, t, c, fs, rfl⟩ := h x hx
  rfl
theorem AdOk.sp {m n k : Int} {xs : List Sp_} (h : AdOk m n k xs) : ∀ x ∈ xs, SpOk m n k x := fun x hx => (h x hx).1
theorem AdOk.sub {m n k : Int} {xs ys : List Sp_} (h : AdOk m n k xs) (h2 : ∀ y ∈ ys, y ∈ xs) : AdOk m n k ys := fun x hx => h x (h2 x hx)
theorem compS_ad {m : Int} {s : List Nd} (hm : 2 ≤ m) (hs : NsOk s) (h0 : 1 ≤ s.length) : AdOk m 3 (need s) (compS m s) := steps_each (by omega) hs _ (wholeT_ok hm h0)
/-- what a source means -/
def lastV (m : Int) (gs : List Int) (s : List Nd) : Int := (vals m gs s).getLastD 0
theorem lastV_of {m : Int} {gs : List Int} {s : List Nd} (h0 : 1 ≤ s.length) : ∃ vs, vals m gs s = vs ++ [lastV m gs s] := by
  obtain ⟨vs, v, e⟩ : ∃ vs v, vals m gs s = vs ++ [v] := runF_last h0
  refine ⟨vs, ?_⟩
  unfold lastV
  rw [e]
  simp
theorem lastV_in {m : Int} {gs : List Int} {s : List Nd} (hm : 0 < m) (h0 : 1 ≤ s.length) : 0 ≤ lastV m gs s ∧ lastV m gs s < m := by
  obtain ⟨vs, e⟩ := lastV_of (m := m) (gs := gs) h0
  refine vals_in (s := s) (gs := gs) hm s.length (Nat.le_refl _) _ ?_
  rw [List.take_length, e]
  simp
theorem compS_ran {p : Nat} {gs mem : List Int} {s : List Nd} (hp : 2 ≤ p) (hs : NsOk s) (h0 : 1 ≤ s.length) (h : Vl p 3 mem) : ran p gs mem (compS p s) = addAt p mem 0 (lastV p gs s) := by
  obtain ⟨vs, e⟩ := lastV_of (m := (p : Int)) (gs := gs) h0
  exact compS_run (by omega) hs h0 e h.len h.bd
theorem chg_comp {p : Nat} {gs mem : List Int} {s : List Nd} (hp : 2 ≤ p) (hs : NsOk s) (h0 : 1 ≤ s.length) (h : Vl p 3 mem) : chg p 0 (compS p s) gs mem = lastV p gs s % p := by
  unfold chg
  rw [compS_ran hp hs h0 h, addAt_self (by have := h.len; omega), Int.sub_emod, Int.emod_emod, ← Int.sub_emod]
  congr 1
  omega
theorem clean0 {p k : Nat} {s : List Nd} (hp : 2 ≤ p) (hs : NsOk s) (h0 : 1 ≤ s.length) : ClS p 0 k 3 (compS p s) := by
  intro gs mem _ hm
  refine ⟨fun c hc _ hne => ?_, ?_⟩
  · rw [compS_ran hp hs h0 hm]
    exact addAt_ne (by decide) hc hne
  · rw [chg_comp hp hs h0 hm, chg_comp hp hs h0 (vl_zero (by omega))]
theorem clean1 {p k : Nat} {s : List Nd} (hp : 2 ≤ p) (hs : NsOk s) (h0 : 1 ≤ s.length) : ClS p 1 k 3 (compS p s) ↔ ∀ gs, Vl p k gs → lastV p gs s = 0 := by
  constructor
  · intro h gs hg
    have hz := vl_zero (p := p) (n := 3) (by omega)
    have h1 := (h gs _ hg hz).1 0 (by decide) (by decide) (by decide)
    rw [compS_ran hp hs h0 hz, addAt_self (by decide)] at h1
    have hv := lastV_in (m := (p : Int)) (gs := gs) (by omega) h0
    rw [show cg (List.replicate 3 0) 0 = 0 from rfl, Int.zero_add, Int.emod_eq_of_lt hv.1 hv.2] at h1
    exact h1
  · intro h gs mem hg hm
    have e : ∀ mem, Vl p 3 mem → ran p gs mem (compS p s) = mem := fun mem hm => by
      rw [compS_ran hp hs h0 hm, h gs hg]
      exact addAt_zero (by have := hm.len; omega) hm.bd (by omega) Cg.rfl'
    refine ⟨fun c _ _ _ => by rw [e mem hm], ?_⟩
    unfold chg
    rw [e mem hm, e _ (vl_zero (by omega)), Int.sub_self, Int.sub_self]
theorem six_ok {e : Int} : ∃ p : Nat, atI [D.int 2, D.int 2, D.int 2, D.int 3, D.int 3, D.int 5] (e % 6) = some (.int p) ∧ Prm p ∧ 2 ≤ p ∧ (p = 2 ∨ p = 3 ∨ p = 5) := by
  have hc : e % 6 = 0 ∨ e % 6 = 1 ∨ e % 6 = 2 ∨ e % 6 = 3 ∨ e % 6 = 4 ∨ e % 6 = 5 := by omega
  rcases hc with h | h | h | h | h | h <;> rw [h]
  · exact ⟨2, atI_nn (by decide) rfl, eight_prm (by simp), by decide, .inl rfl⟩
  · exact ⟨2, atI_nn (by decide) rfl, eight_prm (by simp), by decide, .inl rfl⟩
  · exact ⟨2, atI_nn (by decide) rfl, eight_prm (by simp), by decide, .inl rfl⟩
  · exact ⟨3, atI_nn (by decide) rfl, eight_prm (by simp), by decide, .inr (.inl rfl)⟩
  · exact ⟨3, atI_nn (by decide) rfl, eight_prm (by simp), by decide, .inr (.inl rfl)⟩
  · exact ⟨5, atI_nn (by decide) rfl, eight_prm (by simp), by decide, .inr (.inr rfl)⟩
/-! ### the law's own sources: the inputs that they name -/
theorem lsource_in_ok {M R : Hd} {many ins : Int} (h : Dr M R) (hm : 1 ≤ many ∧ many ≤ 1000) (hi : 1 ≤ ins ∧ ins ≤ 60) : Wp (m__law_source [.ref 1, .int many, .int ins] M) (okQ fun d M1 => ∃ (s : List Nd) (cs : List Int) (p : Int) (X : Hd), d = .tup (s.map nD) ∧ NsOk s ∧ (∀ v, Nd.inp v ∈ s → v < ins) ∧ (∀ c ∈ costs s, 1 ≤ c ∧ c ≤ 300) ∧ s.length = many.toNat ∧ costs s = cs ++ [p] ∧ p ≤ 300 ∧ Dr M1 (R ++ X)) := by
  refine wp_mir rfl ?_
  unfold g__law_source
  walk_at "ds"
  have hl := h.len
  have h := (h.app [.lst []]).app [.lst []]
  have e1 : (M ++ [O.lst []]).length = R.length + 1 + 2 := by simp [hl]
  rw [e1, hl]
  rw [if_smP (by omega)]
  have e2 : R ++ [O.lst []] ++ [O.lst []] = R ++ O.lst (([] : List Nd).map nD) :: O.lst ((costs []).map D.int) :: [] := by rw [List.append_assoc]; rfl
  rw [e2] at h
  refine wp_forL (fun i r M1 => ∃ (s : List Nd) (X : Hd) (a5 a6 a7 a8 a9 a10 a11 : Option D), r = [some (.ref 1), some (.int many), some (.int ins), some (.ref (R.length + 2)), some (.ref (R.length + 1 + 2)), a5, a6, a7, a8, a9, a10, a11] ∧ NsOk s ∧ (∀ v, Nd.inp v ∈ s → v < ins) ∧ s.length = i ∧ (∀ c ∈ costs s, 1 ≤ c ∧ c ≤ 300) ∧ Dr M1 (R ++ .lst (s.map nD) :: .lst ((costs s).map D.int) :: X)) ?_ ?_ ?_
  · rintro i d r M1 hd ⟨s, X, a5, a6, a7, a8, a9, a10, a11, rfl, ok, hin_, hsl, hcs, hD⟩
    obtain ⟨hi2, rfl⟩ := ints_get hd
    refine ⟨by simp, _, rfl, ?_⟩
    have hcl := costs_len s
    have hil : i < many.toNat := by omega
    simp only [Int.zero_add]
    walk_at "ds"
    refine (draw_ok hD).ok ?_
    rintro _ M2 ⟨n1, rfl, _, _, hD⟩
    walk_at "ds"
    have hmx : 1 ≤ (if (1 : Int) < (i : Int) then (i : Int) else 1) ∧ (0 < i → (if (1 : Int) < (i : Int) then (i : Int) else 1) = i) := by split <;> omega
    refine (draw_ok hD).ok ?_
    rintro _ M3 ⟨n2, rfl, _, _, hD⟩
    walk_at "ds"
    generalize (if (1 : Int) < (i : Int) then (i : Int) else 1) = mx at hmx ⊢
    rw [modG_ok (by omega)]
    walk_at "ds"
    refine (draw_ok hD).ok ?_
    rintro _ M4 ⟨n3, rfl, _, _, hD⟩
    walk_at "ds"
    rw [modG_ok (by omega)]
    walk_at "ds"
    refine (draw_ok hD).ok ?_
    rintro _ M5 ⟨n4, rfl, _, _, hD⟩
    walk_at "ds"
    rw [modG_ok (by omega)]
    walk_at "ds"
    refine (draw_ok hD).ok ?_
    rintro _ M6 ⟨n5, rfl, _, _, hD⟩
    walk_at "ds"
    rw [modG_ok (by omega)]
    walk_at "ds"
    have i1 : 0 ≤ n2 % mx ∧ (0 < i → n2 % mx < i) := ⟨Int.emod_nonneg _ (by omega), fun hp => by have := Int.emod_lt_of_pos n2 (show 0 < mx by omega); have := hmx.2 hp; omega⟩
    have i2 : 0 ≤ n3 % mx ∧ (0 < i → n3 % mx < i) := ⟨Int.emod_nonneg _ (by omega), fun hp => by have := Int.emod_lt_of_pos n3 (show 0 < mx by omega); have := hmx.2 hp; omega⟩
    have i3 : 0 ≤ n4 % mx ∧ (0 < i → n4 % mx < i) := ⟨Int.emod_nonneg _ (by omega), fun hp => by have := Int.emod_lt_of_pos n4 (show 0 < mx by omega); have := hmx.2 hp; omega⟩
    have i4 : 0 ≤ n5 % ins ∧ n5 % ins < 60 ∧ n5 % ins < ins := ⟨Int.emod_nonneg _ (by omega), by have := Int.emod_lt_of_pos n5 (show 0 < ins by omega); omega, Int.emod_lt_of_pos n5 (by omega)⟩
    generalize n2 % mx = vi at i1 ⊢
    generalize n3 % mx = vj at i2 ⊢
    generalize n4 % mx = vl at i3 ⊢
    generalize n5 % ins = vn at i4 ⊢
    generalize n1 % 8 = pk
    have cdef : ∀ {M : Hd} {X : Hd}, Dr M (R ++ .lst (s.map nD) :: .lst ((costs s).map D.int) :: X) → M[R.length + 1 + 2]? = some (O.lst ((costs s).map D.int)) := fun hD => by rw [hD.get]; exact get_mid2
    have gq := cdef hD
    have hnp : NOk i (.inp vn) := ⟨by omega, by omega⟩
    have cl1 := fun (h : 0 < i) => cs_le hcs (i := vi) (by rw [hcl]; have := i1.2 h; omega)
    have cl2 := fun (h : 0 < i) => cs_le hcs (i := vj) (by rw [hcl]; have := i2.2 h; omega)
    have cl3 := fun (h : 0 < i) => cs_le hcs (i := vl) (by rw [hcl]; have := i3.2 h; omega)
    have j1 := fun (h : 0 < i) => show 0 ≤ vi ∧ vi < (costs s).length by rw [hcl]; have := i1.2 h; omega
    have j2 := fun (h : 0 < i) => show 0 ≤ vj ∧ vj < (costs s).length by rw [hcl]; have := i2.2 h; omega
    have j3 := fun (h : 0 < i) => show 0 ≤ vl ∧ vl < (costs s).length by rw [hcl]; have := i3.2 h; omega
    have hin : ∀ {v : Int}, 0 ≤ v ∧ v < (costs s).length → 0 ≤ v ∧ v < i := fun h => by rw [hcl] at h; omega
    refine Wp.imp (Q := fun o => ∃ (n : Nd) (M7 : Hd), NOk i n ∧ (∀ v, n = .inp v → v < ins) ∧ 1 ≤ price (costs s) n ∧ Dr M7 (R ++ .lst (s.map nD) :: .lst ((costs s).map D.int) :: X) ∧ o = (Fl.nx [some (.ref 1), some (.int many), some (.int ins), some (.ref (R.length + 2)), some (.ref (R.length + 1 + 2)), some (.int i), some (.int pk), some (.int vi), some (.int vj), some (.int vl), some (nD n), some (.int (price (costs s) n))], M7)) ?_ ?_
    · refine wp_if2 (c := 0 < i ∧ pk < 2) ?_ (fun hc => ?_) (fun hc => ?_)
      · walk_at "di"
        split
        · exact ⟨_, rfl, by rw [decide_eq_true_iff]; omega⟩
        · exact ⟨_, rfl, by simp; omega⟩
      · walk_at "di"
        rw [gq]
        walk_at "di"
        rw [atI_cs (j1 hc.1)]
        walk_at "di"
        rw [gq]
        walk_at "di"
        rw [atI_cs (j2 hc.1)]
        walk_at "di"
        exact ⟨.sum vi vj, M6, ⟨hin (j1 hc.1), hin (j2 hc.1)⟩, (fun _ h => nomatch h), by have := cl1 hc.1; have := cl2 hc.1; simp only [price]; omega, hD, rfl⟩
      · refine wp_if2 (c := 0 < i ∧ pk < 4) ?_ (fun hc => ?_) (fun hc => ?_)
        · walk_at "di"
          split
          · exact ⟨_, rfl, by rw [decide_eq_true_iff]; omega⟩
          · exact ⟨_, rfl, by simp; omega⟩
        · walk_at "di"
          rw [gq]
          walk_at "di"
          rw [atI_cs (j1 hc.1)]
          walk_at "di"
          rw [gq]
          walk_at "di"
          rw [atI_cs (j2 hc.1)]
          walk_at "di"
          exact ⟨.prod vi vj, M6, ⟨hin (j1 hc.1), hin (j2 hc.1)⟩, (fun _ h => nomatch h), by have := cl1 hc.1; have := cl2 hc.1; simp only [price]; omega, hD, rfl⟩
        · refine wp_if2 (c := 0 < i ∧ pk = 4) ?_ (fun hc => ?_) (fun hc => ?_)
          · walk_at "di"
            split
            · exact ⟨_, rfl, by rw [decide_eq_true_iff]; omega⟩
            · exact ⟨_, rfl, by simp; omega⟩
          · walk_at "di"
            rw [gq]
            walk_at "di"
            rw [atI_cs (j3 hc.1)]
            walk_at "di"
            rw [gq]
            walk_at "di"
            rw [atI_cs (j1 hc.1)]
            walk_at "di"
            rw [gq]
            walk_at "di"
            rw [atI_cs (j2 hc.1)]
            walk_at "di"
            rw [gq]
            walk_at "di"
            rw [atI_cs (j3 hc.1)]
            walk_at "di"
            exact ⟨.choose vi vj vl, M6, ⟨hin (j1 hc.1), hin (j2 hc.1), hin (j3 hc.1)⟩, (fun _ h => nomatch h), by have := cl1 hc.1; have := cl2 hc.1; have := cl3 hc.1; simp only [price]; omega, hD, rfl⟩
          · refine wp_if2 (c := 0 < i ∧ pk = 5) ?_ (fun hc => ?_) (fun hc => ?_)
            · walk_at "di"
              split
              · exact ⟨_, rfl, by rw [decide_eq_true_iff]; omega⟩
              · exact ⟨_, rfl, by simp; omega⟩
            · walk_at "di"
              refine (draw_ok hD).ok ?_
              rintro _ M7 ⟨n6, rfl, _, _, hD⟩
              have gq := cdef hD
              walk_at "di"
              rw [gq]
              walk_at "di"
              rw [atI_cs (j1 hc.1)]
              walk_at "di"
              exact ⟨.scaled n6 vi, M7, ⟨⟨by omega, by omega⟩, hin (j1 hc.1)⟩, (fun _ h => nomatch h), (cl1 hc.1).1, hD, rfl⟩
            · refine wp_if2 (c := pk = 6) ?_ (fun hc => ?_) (fun hc => ?_)
              · walk_at "di"
                exact ⟨_, rfl, by rw [decide_eq_true_iff]⟩
              · walk_at "di"
                refine (draw_ok hD).ok ?_
                rintro _ M7 ⟨n6, rfl, _, _, hD⟩
                walk_at "di"
                exact ⟨.const n6, M7, ⟨by omega, by omega⟩, (fun _ h => nomatch h), Int.le_refl 1, hD, rfl⟩
              · walk_at "di"
                exact ⟨.inp vn, M6, hnp, (fun v h => by cases h; exact i4.2.2), Int.le_refl 1, hD, rfl⟩
    rintro _ ⟨n, M7, hn, hnI, hpr, hD, rfl⟩
    walk_at "ds"
    refine Wp.imp (Q := fun o => ∃ (n : Nd) (M8 : Hd), NOk i n ∧ (∀ v, n = .inp v → v < ins) ∧ (1 ≤ price (costs s) n ∧ price (costs s) n ≤ 300) ∧ Dr M8 (R ++ .lst (s.map nD) :: .lst ((costs s).map D.int) :: X) ∧ o = (Fl.nx [some (.ref 1), some (.int many), some (.int ins), some (.ref (R.length + 2)), some (.ref (R.length + 1 + 2)), some (.int i), some (.int pk), some (.int vi), some (.int vj), some (.int vl), some (nD n), some (.int (price (costs s) n))], M8)) ?_ ?_
    · refine wp_if2 (c := 300 < price (costs s) n) ?_ (fun hc => ?_) (fun hc => ?_)
      · walk_at "di"
        exact ⟨_, rfl, by rw [decide_eq_true_iff]⟩
      · walk_at "di"
        refine (draw_ok hD).ok ?_
        rintro _ M8 ⟨n6, rfl, _, _, hD⟩
        walk_at "di"
        exact ⟨.const n6, M8, ⟨by omega, by omega⟩, (fun _ h => nomatch h), ⟨Int.le_refl 1, by show (1 : Int) ≤ 300; decide⟩, hD, rfl⟩
      · walk_at "di"
        exact ⟨n, M7, hn, hnI, ⟨hpr, by omega⟩, hD, rfl⟩
    rintro _ ⟨n, M8, hn, hnI, hpr, hD, rfl⟩
    walk_at "ds"
    have g3 : M8[R.length + 2]? = some (O.lst (s.map nD)) := by rw [hD.get]; exact get_mid
    rw [g3]
    walk_at "ds"
    try rw [g3]
    try dsimp only
    rw [if_pos (by rw [List.length_map]; omega)]
    walk_at "ds"
    have hD := hD.set R.length (.lst (s.map nD ++ [nD n]))
    rw [set_mid] at hD
    generalize M8.set (R.length + 2) (.lst (s.map nD ++ [nD n])) = M9 at hD ⊢
    have g4 : M9[R.length + 1 + 2]? = some (O.lst ((costs s).map D.int)) := by rw [hD.get]; exact get_mid2
    rw [g4]
    walk_at "ds"
    try rw [g4]
    try dsimp only
    rw [if_pos (by rw [List.length_map, hcl]; omega)]
    walk_at "ds"
    have hD := hD.set (R.length + 1) (.lst ((costs s).map D.int ++ [.int (price (costs s) n)]))
    rw [set_midS] at hD
    refine ⟨s ++ [n], X, _, _, _, _, _, _, _, rfl, ok.add (by rw [hsl]; exact hn), ?_, by simp; omega, ?_, ?_⟩
    · intro v hv
      rcases List.mem_append.mp hv with hv | hv
      · exact hin_ v hv
      · rw [List.mem_singleton] at hv
        exact hnI v hv.symm
    · intro c hc
      rw [costs_app] at hc
      rcases List.mem_append.mp hc with hc | hc
      · exact hcs c hc
      · rw [List.mem_singleton] at hc
        rw [hc]
        exact hpr
    · rw [costs_app, List.map_append, List.map_append]
      exact hD
  · rintro r M1 ⟨s, X, a5, a6, a7, a8, a9, a10, a11, rfl, ok, hin_, hsl, hcs, hD⟩
    rw [ints_length] at hsl
    refine ⟨by simp, ?_⟩
    obtain ⟨cs, p, hc⟩ := costs_last (s := s) (by omega)
    walk_at "ds"
    rw [tupleG_of (by rw [hD.get]; exact get_mid)]
    walk_at "ds"
    exact ⟨s, cs, p, _, rfl, ok, hin_, hcs, by omega, hc, (hcs p (by rw [hc]; simp)).2, hD⟩
  · exact ⟨[], [], none, none, none, none, none, none, none, rfl, .nil, (fun _ h => nomatch h), rfl, (fun c hc => by simp [costs, runF] at hc), h⟩
theorem thin_source_ok {M R : Hd} (h : Dr M R) : Wp (m__law_thin_source [.ref 1] M) (okQ fun d M1 => ∃ (s : List Nd) (cs : List Int) (p : Int) (X : Hd), d = .tup (s.map nD) ∧ NsOk s ∧ need s ≤ 2 ∧ (1 ≤ s.length ∧ s.length ≤ 8) ∧ costs s = cs ++ [p] ∧ (1 ≤ p ∧ p ≤ 300) ∧ Dr M1 (R ++ X)) := by
  refine wp_mir rfl ?_
  unfold g__law_thin_source
  walk_at "ds"
  refine (draw_ok h).ok ?_
  rintro _ M1 ⟨e, rfl, _, _, hD⟩
  walk_at "ds"
  refine (lsource_in_ok (many := 1 + e % 8) (ins := 2) hD (by omega) (by omega)).ok ?_
  rintro _ M2 ⟨s, cs, p, X, rfl, ok, hin_, hcs, hl, hc, _, hD⟩
  walk_at "ds"
  exact ⟨s, cs, p, X, rfl, ok, fold_le' s 0 (by decide) (fun i hi => by have := hin_ i hi; omega), by omega, hc, hcs p (by rw [hc]; simp), hD⟩
/-! ### one of the steps changed -/
theorem ixN_nn {n : Nat} {c : Int} (h0 : 0 ≤ c) (h1 : c < n) : ixN n c = some c.toNat := by
  unfold ixN
  rw [if_pos (show 0 ≤ c by omega), if_pos h1]
theorem law_changed_ok {M R : Hd} {q p : Nat} {k : Int} {xs : List Sp_} (h : Dr M R) (hp : 2 ≤ p ∧ p ≤ 1000) (hq : 2 ≤ q) (g : M[q]? = some (.lst (xs.map spd))) (hx : AdOk p 3 k xs) (hl : 1 ≤ xs.length ∧ xs.length ≤ 300) :
    Wp (m__law_changed [.ref 1, .ref q, .int p] M) (okQ fun d M1 => ∃ (s : Nat) (ys : List Sp_) (X : Hd), d = .ref (s + 2) ∧ R.length ≤ s ∧ Dr M1 (R ++ X) ∧ (R ++ X)[s]? = some (.lst (ys.map spd)) ∧ AdOk p 3 k ys ∧ ys.length ≤ 301) := by
  refine wp_mir rfl ?_
  unfold g__law_changed
  walk_at "ds"
  rw [listG_ref g]
  walk_at "ds"
  have hD := h.app [.lst (xs.map spd)]
  rw [h.len]
  refine (draw_ok hD).ok ?_
  rintro _ M1 ⟨e, rfl, _, _, hD⟩
  have gz : M1[R.length + 2]? = some (.lst (xs.map spd)) := by rw [hD.get]; exact get_here
  walk_at "ds"
  rw [gz]
  walk_at "ds"
  rw [List.length_map, modG_ok (by omega)]
  walk_at "ds"
  refine (draw_ok hD).ok ?_
  rintro _ M2 ⟨f, rfl, _, _, hD⟩
  have gz : M2[R.length + 2]? = some (.lst (xs.map spd)) := by rw [hD.get]; exact get_here
  walk_at "ds"
  have hg := mod_in e (show 0 < (xs.length : Int) by omega)
  generalize e % (xs.length : Int) = at_ at hg ⊢
  obtain ⟨j, rfl⟩ : ∃ j : Nat, at_ = (j : Int) := ⟨at_.toNat, by omega⟩
  have hlt : j < xs.length := by omega
  obtain ⟨x, hxj⟩ : ∃ x, xs[j]? = some x := ⟨xs[j], List.getElem?_eq_getElem hlt⟩
  obtain ⟨okx, xt, xc, xf, rfl⟩ := hx x (List.mem_of_getElem? hxj)
  have aj : atI (xs.map spd) (j : Int) = some (spd (.add xt xc xf)) := at_map hxj
  have gset : ∀ o : O, (R ++ [O.lst (xs.map spd)]).set R.length o = R ++ [o] := fun o => set_here
  have fin_ : ∀ {a4 a5 a6 : Option D} {M3 : Hd} {zs : List Sp_}, Dr M3 (R ++ [O.lst (zs.map spd)]) → AdOk p 3 k zs → zs.length ≤ 301 → ∃ (s : Nat) (ys : List Sp_) (X : Hd) (a4' a5' a6' : Option D) (M4 : Hd), ((Fl.nx [some (.ref 1), some (.ref (R.length + 2)), some (.int p), some (.int j), a4, a5, a6], M3) : Fl × Hd) = (Fl.nx [some (.ref 1), some (.ref (s + 2)), some (.int p), some (.int j), a4', a5', a6'], M4) ∧ R.length ≤ s ∧ Dr M4 (R ++ X) ∧ (R ++ X)[s]? = some (.lst (ys.map spd)) ∧ AdOk p 3 k ys ∧ ys.length ≤ 301 := fun {a4 a5 a6 M3 zs} h1 h2 h3 => ⟨R.length, zs, _, a4, a5, a6, M3, rfl, Nat.le_refl _, h1, get_here, h2, h3⟩
  refine Wp.imp (Q := fun o => ∃ (s : Nat) (ys : List Sp_) (X : Hd) (a4 a5 a6 : Option D) (M3 : Hd), o = (Fl.nx [some (.ref 1), some (.ref (s + 2)), some (.int p), some (.int j), a4, a5, a6], M3) ∧ R.length ≤ s ∧ Dr M3 (R ++ X) ∧ (R ++ X)[s]? = some (.lst (ys.map spd)) ∧ AdOk p 3 k ys ∧ ys.length ≤ 301) ?_ ?_
  · refine wp_if2 (c := f % 4 = 0) ?_ (fun _ => ?_) (fun h0 => ?_)
    · walk_at "di"
      exact ⟨_, rfl, decide_eq_true_iff⟩
    · walk_at "di"
      rw [gz]
      dsimp only
      unfold popAtG
      dsimp only
      rw [if_pos (by omega), List.getElem?_map, Int.toNat_natCast, hxj]
      simp only [Option.map_some]
      walk_at "di"
      have hD := hD.set R.length (.lst ((xs.map spd).eraseIdx j))
      have hmap : (xs.map spd).eraseIdx j = (xs.eraseIdx j).map spd := by
        rw [List.eraseIdx_eq_take_drop_succ, List.eraseIdx_eq_take_drop_succ, List.map_append, List.map_take, List.map_drop]
      rw [hmap] at hD ⊢
      rw [gset] at hD
      exact fin_ hD (hx.sub fun y hy => List.mem_of_mem_eraseIdx hy) (by rw [List.length_eraseIdx_of_lt hlt]; omega)
    refine wp_if2 (c := f % 4 = 1) ?_ (fun _ => ?_) (fun h1 => ?_)
    · walk_at "di"
      exact ⟨_, rfl, decide_eq_true_iff⟩
    · walk_at "di"
      rw [gz]
      dsimp only
      rw [aj]
      walk_at "di"
      rw [gz]
      dsimp only
      unfold insertG
      dsimp only
      rw [if_pos ⟨by omega, by omega, by rw [List.length_map]; omega⟩, Int.toNat_natCast]
      walk_at "di"
      have hmap : (xs.map spd).take j ++ [spd (.add xt xc xf)] ++ (xs.map spd).drop j = (xs.take j ++ [Sp_.add xt xc xf] ++ xs.drop j).map spd := by
        simp only [List.map_append, List.map_take, List.map_drop, List.map_cons, List.map_nil]
      rw [hmap]
      have hD := hD.set R.length (.lst ((xs.take j ++ [Sp_.add xt xc xf] ++ xs.drop j).map spd))
      rw [gset] at hD
      refine fin_ hD (hx.sub fun y hy => ?_) (by simp; omega)
      simp only [List.mem_append, List.mem_singleton] at hy
      rcases hy with (hy | rfl) | hy
      · exact List.mem_of_mem_take hy
      · exact List.mem_of_getElem? hxj
      · exact List.mem_of_mem_drop hy
    refine wp_if2 (c := f % 4 = 2 ∧ (j : Int) + 1 < xs.length) ?_ (fun hc => ?_) (fun h2 => ?_)
    · walk_at "di"
      rw [gz]
      walk_at "di"
      rw [List.length_map]
      split
      · exact ⟨_, rfl, by rw [decide_eq_true_iff]; omega⟩
      · exact ⟨_, rfl, by simp; omega⟩
    · obtain ⟨x2, hx2⟩ : ∃ x2, xs[j + 1]? = some x2 := ⟨xs[j + 1], List.getElem?_eq_getElem (by omega)⟩
      have aj2 : atI (xs.map spd) ((j : Int) + 1) = some (spd x2) := at_map (i := j + 1) hx2
      generalize hX : Sp_.add xt xc xf = x at aj hxj okx
      walk_at "di"
      rw [gz]
      dsimp only
      rw [aj]
      walk_at "di"
      rw [gz]
      dsimp only
      rw [aj2]
      walk_at "di"
      rw [gz]
      dsimp only
      rw [ixN_nn (by omega) (by rw [List.length_map]; omega), Int.toNat_natCast]
      walk_at "di"
      have hD := hD.set R.length (.lst ((xs.map spd).set j (spd x2)))
      have gz2 : (M2.set (R.length + 2) (.lst ((xs.map spd).set j (spd x2))))[R.length + 2]? = some (.lst ((xs.map spd).set j (spd x2))) := set_get gz
      rw [gz2]
      dsimp only
      rw [ixN_nn (by omega) (by rw [List.length_set, List.length_map]; omega), show ((j : Int) + 1).toNat = j + 1 by omega]
      walk_at "di"
      rw [gset] at hD
      have hD := hD.set R.length (.lst (((xs.map spd).set j (spd x2)).set (j + 1) (spd x)))
      rw [show (R ++ [O.lst ((xs.map spd).set j (spd x2))]).set R.length (.lst (((xs.map spd).set j (spd x2)).set (j + 1) (spd x))) = R ++ [O.lst (((xs.map spd).set j (spd x2)).set (j + 1) (spd x))] from set_here] at hD
      have hmap : ((xs.map spd).set j (spd x2)).set (j + 1) (spd x) = ((xs.set j x2).set (j + 1) x).map spd := by
        rw [List.map_set, List.map_set]
      rw [hmap] at hD ⊢
      refine fin_ hD (hx.sub fun y hy => ?_) (by simp; omega)
      rcases List.mem_or_eq_of_mem_set hy with hy | rfl
      · rcases List.mem_or_eq_of_mem_set hy with hy | rfl
        · exact hy
        · exact List.mem_of_getElem? hx2
      · exact List.mem_of_getElem? hxj
    · have okn : SpOk p 3 k (.add xt ((xc + 1) % p) xf) := ⟨okx.1, mod_in _ (by omega), okx.2.2.1, okx.2.2.2⟩
      have hs : spd (.add xt xc xf) = .tup [.str "add", .int xt, .int xc, .tup (xf.map fcD)] := rfl
      rw [hs] at aj
      walk_at "di"
      rw [gz]
      dsimp only
      rw [aj]
      walk_at "di"
      rw [modG_ok (by omega)]
      walk_at "di"
      rw [gz]
      dsimp only
      rw [ixN_nn (by omega) (by rw [List.length_map]; omega), Int.toNat_natCast]
      walk_at "di"
      rw [show D.tup [.str "add", .int xt, .int ((xc + 1) % p), .tup (xf.map fcD)] = spd (.add xt ((xc + 1) % p) xf) from rfl]
      have hD := hD.set R.length (.lst ((xs.map spd).set j (spd (.add xt ((xc + 1) % p) xf))))
      have hmap : (xs.map spd).set j (spd (.add xt ((xc + 1) % p) xf)) = (xs.set j (.add xt ((xc + 1) % p) xf)).map spd := by rw [List.map_set]
      rw [gset] at hD
      rw [hmap] at hD ⊢
      refine fin_ hD ?_ (by simp; omega)
      intro y hy
      rcases List.mem_or_eq_of_mem_set hy with hy | rfl
      · exact hx y hy
      · exact ⟨okn, _, _, _, rfl⟩
  rintro _ ⟨s, ys, X, a4, a5, a6, M3, rfl, hs, hD, gs, hy, hyl⟩
  walk_at "ds"
  exact ⟨s, ys, X, rfl, hs, hD, gs, hy, hyl⟩
/-! ### the points at which a source adds something -/
theorem law_adds_ok {p k : Nat} {s : List Nd} {NS : D} {z : Nat} {M : Hd} (hp : 2 ≤ p ∧ p ≤ 1000) (hk : (k : Int) = need s) (hs : NsOk s) (h0 : 1 ≤ s.length ∧ s.length ≤ 200) (hk2 : k ≤ 60) (hb : p ^ k ≤ 1000000) :
    Wp (eLc (seqI (eCall m__law_points (aCons (eVar 2) (aCons (eVar 4) aNil)))) (.nm 11) (tVal (eOp neG (eCall m__law_meaning (aCons (eVar 3) (aCons (eVar 2) (aCons (eVar 11) aNil)))) (eC (.int 0)))) (eVar 11) [11] [some NS, some (.ref 1), some (.int p), some (.tup (s.map nD)), some (.int k), some (.ref z), none, none, none, none, none, none] M)
      (okQ fun d M1 => ∃ a X ds, d = .ref a ∧ M1 = M ++ X ∧ M1[a]? = some (.lst ds) ∧ (ds = [] ↔ ∀ gs, Vl p k gs → lastV p gs s = 0)) := by
  refine wp_eLc ?_
  simp only [seqI, eCall, aCons, aNil, eVar, wp_bnd, wp_some, List.getElem?_cons_zero, List.getElem?_cons_succ]
  refine (law_points_ok hp.1 (by omega) (by omega) hb).ok ?_
  rintro _ _ ⟨q, rs, X, rfl, rfl, gq, hR⟩
  dsimp only
  rw [gq]
  dsimp only
  rw [wp_some]
  dsimp only
  generalize hB : M ++ X = B at gq hR ⊢
  have hrl : rs.length = p ^ k := by rw [hR.1, pts_len]
  refine wp_lcL (fun i M1 => ∃ ds Y, M1 = B ++ .lst ds :: Y ∧ ds.length ≤ i ∧ (ds = [] ↔ ∀ j pt, j < i → (pts p k)[j]? = some pt → lastV p pt s = 0)) ?_ ?_ ?_
  · rintro i d M1 hd ⟨ds, Y, rfl, hdl, hds⟩
    rw [List.getElem?_map] at hd
    obtain ⟨a, ha, rfl⟩ := Option.map_eq_some_iff.mp hd
    have hi : i < rs.length := (List.getElem?_eq_some_iff.mp ha).1
    obtain ⟨pt, hpt, gpt⟩ := hR.2 i a ha
    obtain ⟨_, e⟩ := pts_at hpt
    have hvl : Vl p k pt := ⟨by rw [e]; exact dig_len, by rw [e]; exact dig_in (by omega)⟩
    refine ⟨by simp only [still_one, still_nil, and_true]; exact get_old gq, _, rfl, ?_⟩
    obtain ⟨vs, hv⟩ := lastV_of (m := (p : Int)) (gs := pt) h0.1
    have hm := meaning_of (M := B ++ .lst ds :: Y) (m := p) (q := a) (gs := pt) h0.2 hs (by omega) (get_old gpt) (by have := hvl.len; omega) hvl.bd hv
    simp only [tVal, eOp, eCall, aCons, aNil, eVar, eC, wp_bnd, wp_some, wip, List.foldl_cons, List.foldl_nil, List.set_cons_succ, List.set_cons_zero, List.getElem?_cons_zero, List.getElem?_cons_succ]
    refine hm.ok ?_
    rintro _ _ ⟨rfl, Z, rfl⟩
    dsimp only
    unfold neG
    dsimp only
    walk_at "ds"
    have hstep : ∀ {ds' : List D}, (ds' = [] ↔ ds = [] ∧ lastV p pt s = 0) → (ds' = [] ↔ ∀ j pt', j < i + 1 → (pts p k)[j]? = some pt' → lastV p pt' s = 0) := fun {ds'} h => by
      rw [h, hds]
      constructor
      · rintro ⟨h1, h2⟩ j pt' hj hpt'
        by_cases hji : j < i
        · exact h1 j pt' hji hpt'
        · have : j = i := by omega
          subst this
          rw [hpt] at hpt'
          cases hpt'
          exact h2
      · intro h
        exact ⟨fun j pt' hj => h j pt' (by omega), h i pt (by omega) hpt⟩
    refine ⟨fun hb => ?_, fun hb => ?_⟩
    · have hz : lastV p pt s = 0 := by simpa using hb
      exact ⟨ds, Y ++ Z, by simp, by omega, hstep ⟨fun h => ⟨h, hz⟩, fun h => h.1⟩⟩
    · have hz : lastV p pt s ≠ 0 := by simpa using hb
      refine ⟨ds, by rw [List.append_assoc]; exact get_here, by omega, ds ++ [.ref a], Y ++ Z, ?_, by simp; omega, hstep ?_⟩
      · rw [List.append_assoc, List.cons_append, set_here]
      · constructor
        · intro h
          simp at h
        · intro h
          exact absurd h.2 hz
  · rintro M1 ⟨ds, Y, rfl, _, hds⟩
    refine ⟨by simp only [still_one, still_nil, and_true]; exact get_old gq, B.length, X ++ .lst ds :: Y, ds, rfl, by rw [← hB]; simp, get_here, ?_⟩
    rw [hds]
    constructor
    · intro h gs hg
      obtain ⟨i, hi, e⟩ := dig_surj (p := p) (N := k) hg.len hg.bd
      exact h i gs (by rw [List.length_map, hrl]; exact hi) (by rw [pts_get hi, e])
    · intro h j pt _ hpt
      obtain ⟨_, e⟩ := pts_at hpt
      exact h pt ⟨by rw [e]; exact dig_len, by rw [e]; exact dig_in (by omega)⟩
  · refine ⟨[], [], by simp, by simp, ?_⟩
    simp
theorem pow_small {p k : Nat} (h : p = 2 ∨ p = 3 ∨ p = 5) (hk : k ≤ 2) (h5 : p = 5 → k = 0) : p ^ (k + 3) ≤ 243 ∧ p ^ k ≤ 9 := by
  rcases h with rfl | rfl | rfl
  · rcases k with _ | _ | _ | k <;> first | omega | decide
  · rcases k with _ | _ | _ | k <;> first | omega | decide
  · rw [h5 rfl]
    decide
structure Src (s : List Nd) (k : Nat) : Prop where
  ok : NsOk s
  nd : need s = k
  ln : 1 ≤ s.length ∧ s.length ≤ 8
  cs : ∃ cs q, costs s = cs ++ [q] ∧ 1 ≤ q ∧ q ≤ 300
  k2 : k ≤ 2
theorem flat_src {c : Int} (h : 0 ≤ c ∧ c < 1000000) : Src [.const c, .const 2, .prod 0 1] 0 := by
  refine ⟨?_, rfl, by simp, ⟨[1, 1], 4, rfl, by decide, by decide⟩, by decide⟩
  exact ((NsOk.nil.add (n := .const c) ⟨by omega, by omega⟩).add (n := .const 2) ⟨by decide, by decide⟩).add (n := .prod 0 1) ⟨⟨by decide, by simp⟩, ⟨by decide, by simp⟩⟩
theorem wit_tup {M : Hd} {n : Nat} {w : Wit} {d : D} (h : WitD M n (some w) d) : ∃ l, d = .tup l := by
  cases w with
  | sp gs mem c => obtain ⟨a, b, rfl, _⟩ := h; exact ⟨_, rfl⟩
  | lk gs mem => obtain ⟨a, b, c, rfl, _⟩ := h; exact ⟨_, rfl⟩
theorem prg_two {M R : Hd} {z u : Nat} {m n k : Int} {xs : List Sp_} (h : Dr M R) (hP : PrgAt M z u m n k xs) : 2 ≤ z := by
  obtain ⟨ds, a, rfl, _, _⟩ := h
  have h := hP.at_
  rcases z with _ | _ | z
  · cases h
  · cases h
  · omega
theorem law_ok (ns : List Int) (h : ns.length ≤ 63) : Wp (m_law [.fl (ns.map D.int)] []) (okQ fun d _ => d = .bl true) := by
  refine wp_mir rfl ?_
  unfold g_law
  walk_at "ds"
  refine (numbers_ok ns h).ok ?_
  rintro _ _ ⟨ds, rfl, rfl, hN, _⟩
  generalize D.fl (ns.map D.int) = NS
  walk_at "ds"
  have hD : Dr [O.lst ds, .lst [.ref 0, .int 0]] [] := ⟨ds, 0, rfl, hN, Int.le_refl 0⟩
  have hD := hD.app [O.lst [D.int 2, D.int 2, D.int 2, D.int 3, D.int 3, D.int 5]]
  refine (draw_ok hD).ok ?_
  rintro _ M1 ⟨e, rfl, _, _, hD⟩
  have g2 : M1[([] : Hd).length + 2]? = some (O.lst [D.int 2, D.int 2, D.int 2, D.int 3, D.int 3, D.int 5]) := by rw [hD.get]; rfl
  have g2 : M1[2]? = some (O.lst [D.int 2, D.int 2, D.int 2, D.int 3, D.int 3, D.int 5]) := g2
  walk_at "ds"
  rw [g2]
  dsimp only
  obtain ⟨p, ep, hpr, hp2, hpc⟩ := six_ok (e := e)
  rw [ep]
  have hp5 : p ≤ 5 := by omega
  walk_at "ds"
  refine (thin_source_ok hD).ok ?_
  rintro _ M2 ⟨s, cs, q, X, rfl, ok, hn2, hl8, hc, hq, hD⟩
  walk_at "ds"
  refine (law_needs_ok (by omega)).ok ?_
  rintro _ _ ⟨rfl, X2, rfl⟩
  have hD := hD.app X2
  generalize M2 ++ X2 = M2 at hD ⊢
  generalize [] ++ [O.lst [D.int 2, D.int 2, D.int 2, D.int 3, D.int 3, D.int 5]] ++ X ++ X2 = R at hD
  obtain ⟨k, hk⟩ : ∃ k : Nat, need s = (k : Int) := ⟨(need s).toNat, by have := (need_60 ok).1; omega⟩
  have src : Src s k := ⟨ok, hk, hl8, ⟨cs, q, hc, hq⟩, by omega⟩
  rw [hk]
  clear hn2 hl8 hc hq hk ok g2
  walk_at "ds"
  refine Wp.imp (Q := fun o => ∃ (s : List Nd) (k : Nat) (M3 : Hd), o = (Fl.nx [some NS, some (.ref 1), some (.int p), some (.tup (s.map nD)), some (.int k), none, none, none, none, none, none, none], M3) ∧ Src s k ∧ (p = 5 → k = 0) ∧ Dr M3 R) ?_ ?_
  · refine wp_if2 (c := p = 5 ∧ 0 < k) ?_ (fun hc => ?_) (fun hc => ?_)
    · walk_at "di"
      by_cases h5 : (p : Int) = 5
      · rw [if_pos h5]
        walk_at "di"
        exact ⟨_, rfl, by rw [decide_eq_true_iff]; omega⟩
      · rw [if_neg h5]
        exact ⟨_, rfl, by simp; omega⟩
    · walk_at "di"
      refine (draw_ok hD).ok ?_
      rintro _ M3 ⟨c, rfl, hc0, hc1, hD⟩
      walk_at "di"
      exact ⟨[.const c, .const 2, .prod 0 1], 0, M3, rfl, flat_src ⟨hc0, hc1⟩, fun _ => rfl, hD⟩
    · walk_at "di"
      exact ⟨s, k, M2, rfl, src, fun h5 => by omega, hD⟩
  clear hD src
  rintro _ ⟨s, k, M3, rfl, src, h50, hD⟩
  obtain ⟨hpw, hpk⟩ := pow_small hpc src.k2 h50
  have hk2 := src.k2
  have hl8 := src.ln
  obtain ⟨cs, q, hc, hq⟩ := src.cs
  have hpI : 2 ≤ (p : Int) ∧ (p : Int) ≤ 1000000000 := by omega
  walk_at "ds"
  refine (compile_ok hpI src.ok hl8.1 (by omega) hc (by omega)).ok ?_
  rintro _ _ ⟨X, z, u, rfl, rfl, hP, hu⟩
  have hu : 2 ≤ u := by have := hD.len; omega
  have hcl := compS_len (m := p) (by omega) src.ok hl8.1 hc
  have had := compS_ad (m := p) (by omega) src.ok hl8.1
  have c0 := clean0 (k := k) hp2 src.ok hl8.1
  have c1 := clean1 (k := k) hp2 src.ok hl8.1
  have hnd := src.nd
  rw [hnd] at hP had
  have hP : PrgAt (M3 ++ X) z u (p : Int) ((3 : Nat) : Int) (k : Int) (compS p s) := hP
  have hD := hD.app X
  generalize M3 ++ X = M3 at hP hD ⊢
  generalize R ++ X = R at hD
  have pok : PgOk p ((3 : Nat) : Int) k (compS p s) 20000 := ⟨hpI, by decide, by omega, by omega, had.sp, ht_of had.sp⟩
  have adds := fun (M : Hd) => law_adds_ok (p := p) (k := k) (s := s) (NS := NS) (z := z) (M := M) ⟨hp2, by omega⟩ hnd.symm src.ok ⟨hl8.1, by omega⟩ (by omega) (by omega)
  have hwk : ((compS p s).length + 1) * p ^ (k + 3) ≤ 400000 := Nat.le_trans (Nat.mul_le_mul (show (compS p s).length + 1 ≤ 301 by omega) hpw) (by decide)
  have hx1 : 1 ≤ (compS p s).length ∧ (compS p s).length ≤ 300 := by omega
  generalize compS p s = xs at hP had c0 c1 pok hwk hx1
  generalize D.tup (s.map nD) = SD at adds ⊢
  walk_at "ds"
  obtain ⟨bb, hbb⟩ : ∃ bb : Int, ([(2, 60), (3, 20), (5, 40)] : List (Int × Int)).lookup (p : Int) = some bb := by
    rcases hpc with rfl | rfl | rfl
    · exact ⟨60, rfl⟩
    · exact ⟨20, rfl⟩
    · exact ⟨40, rfl⟩
  refine wp_if2 (c := bb < (xs.length : Int)) ?_ (fun _ => ?_) (fun _ => ?_)
  · walk_at "di"
    rw [plen_ok pok (by decide) hP]
    walk_at "di"
    unfold eTabI
    walk_at "di"
    rw [hbb]
    simp only [Option.map_some]
    walk_at "di"
    exact ⟨_, rfl, decide_eq_true_iff⟩
  · walk_at "ds"
  walk_at "ds"
  refine Wp.imp (Q := fun o => ∃ X, o = (Fl.nx [some NS, some (.ref 1), some (.int p), some SD, some (.int k), some (.ref z), none, none, none, none, none, none], M3 ++ X)) ?_ ?_
  · unfold sIf
    rw [wp_exB]
    simp only [tVal, isNN, eOp, eCall, aCons, aNil, eVar, eC, wp_bnd, wp_some, List.getElem?_cons_zero, List.getElem?_cons_succ]
    refine (judge_ok (p := p) (k := k) (n := 3) (t := 0) hpr hp2 (by omega) had.sp had.noT (by omega) hwk (by decide) hP).ok ?_
    rintro d _ ⟨X1, rfl, hw⟩
    rw [(verd_none (by omega)).mpr c0] at hw
    cases hw
    walk_at "di"
    exact ⟨_, rfl⟩
  rintro _ ⟨X1, rfl⟩
  have hP := hP.app (X := X1)
  have hD := hD.app X1
  generalize M3 ++ X1 = M3 at hP hD ⊢
  generalize R ++ X1 = R at hD
  walk_at "ds"
  refine (adds M3).ok ?_
  rintro _ _ ⟨a, X2, es, rfl, rfl, ga, hes⟩
  have hP := hP.app (X := X2)
  have hD := hD.app X2
  generalize M3 ++ X2 = M3 at hP hD ga ⊢
  generalize R ++ X2 = R at hD
  walk_at "ds"
  refine Wp.imp (Q := fun o => ∃ X, o = (Fl.nx [some NS, some (.ref 1), some (.int p), some SD, some (.int k), some (.ref z), some (.ref a), none, none, none, none, none], M3 ++ X)) ?_ ?_
  · unfold sIf
    rw [wp_exB]
    simp only [tVal, isN, eOp, eCall, aCons, aNil, eVar, eC, wp_bnd, wp_some, List.getElem?_cons_zero, List.getElem?_cons_succ]
    refine (judge_ok (p := p) (k := k) (n := 3) (t := 1) hpr hp2 (by omega) had.sp had.noT (by omega) hwk (by decide) hP).ok ?_
    rintro d _ ⟨X1, rfl, hw⟩
    have hde : (d = .non ∧ es = []) ∨ ∃ l e es', d = .tup l ∧ es = e :: es' := by
      cases hv : verd p 1 k 3 xs with
      | none =>
        rw [hv] at hw
        exact .inl ⟨hw, hes.mpr (c1.mp ((verd_none (by omega)).mp hv))⟩
      | some w =>
        rw [hv] at hw
        obtain ⟨l, rfl⟩ := wit_tup hw
        cases es with
        | nil =>
          have := (verd_none (p := p) (by omega)).mpr (c1.mpr (hes.mp rfl))
          rw [hv] at this
          cases this
        | cons e es => exact .inr ⟨l, e, es, rfl, rfl⟩
    rcases hde with ⟨rfl, rfl⟩ | ⟨l, e, es, rfl, rfl⟩
    · walk_at "di"
      rw [get_old ga]
      walk_at "di"
      exact ⟨_, rfl⟩
    · walk_at "di"
      rw [get_old ga]
      walk_at "di"
      rw [show decide (((es.length + 1 : Nat) : Int) = 0) = false by simp; omega]
      walk_at "di"
      exact ⟨_, rfl⟩
  rintro _ ⟨X3, rfl⟩
  have hP := hP.app (X := X3)
  have hD := hD.app X3
  generalize M3 ++ X3 = M3 at hP hD ⊢
  generalize R ++ X3 = R at hD
  walk_at "ds"
  refine Wp.imp (Q := fun o => (∃ M4, o = (Fl.rt (.bl true), M4)) ∨ ∃ M4, o = (Fl.nx [some NS, some (.ref 1), some (.int p), some SD, some (.int k), some (.ref z), some (.ref a), none, none, none, none, none], M4) ∧ Dr M4 R) ?_ ?_
  · walk_at "di"
    refine (draw_ok hD).ok ?_
    rintro _ M4 ⟨e, rfl, _, _, hD4⟩
    walk_at "di"
    by_cases h2 : e % 2 = 0
    · rw [if_pos h2]
      walk_at "di"
      exact .inl ⟨_, rfl⟩
    · rw [if_neg h2]
      walk_at "di"
      exact .inr ⟨_, rfl, hD4⟩
  rintro _ (⟨M4, rfl⟩ | ⟨M4, rfl, hD4⟩)
  · walk_at "ds"
  have hz2 := prg_two hD hP
  have hD40 : Dr M4 (R ++ []) := by rw [List.append_nil]; exact hD4
  have hP : PrgAt M4 z u (p : Int) ((3 : Nat) : Int) (k : Int) xs := ⟨hD.keepX hD40 hz2 hP.at_, hD.keepX hD40 hu hP.st⟩
  clear hD
  obtain ⟨_, _, _, e4⟩ := fldP hP.at_
  walk_at "ds"
  rw [e4]
  walk_at "ds"
  rw [listG_ref hP.st]
  walk_at "ds"
  have hD := hD4.app [O.lst (xs.map spd)]
  refine (law_changed_ok (k := k) hD ⟨hp2, by omega⟩ (by have := hD4.len; omega) get_here had hx1).ok ?_
  rintro _ M5 ⟨v, ys, X5, rfl, hv, hD5, gv, hys, hyl⟩
  have gv : M5[v + 2]? = some (.lst (ys.map spd)) := by rw [hD5.get]; exact gv
  clear hD hD4 had hx1 pok hwk c0 c1 hP hes ga
  walk_at "ds"
  have pok : PgOk p ((3 : Nat) : Int) k ys 20000 := ⟨hpI, by decide, by omega, by omega, hys.sp, ht_of hys.sp⟩
  have hwk : (ys.length + 1) * p ^ (k + 3) ≤ 400000 := Nat.le_trans (Nat.mul_le_mul (show ys.length + 1 ≤ 302 by omega) hpw) (by decide)
  refine make_go (xs := ys) (q := M5.length) (M1 := M5 ++ [O.lst (ys.map spd)]) pok (by decide) ?_ get_here ?_
  · simp only [aCons, aNil, eOp, eUn, eVar, eC, List.getElem?_cons_zero, List.getElem?_cons_succ, bnd_ok]
    rw [listG_ref gv]
    rfl
  have hP : PrgAt (M5 ++ [O.lst (ys.map spd)] ++ [progO p ((3 : Nat) : Int) k ((M5 ++ [O.lst (ys.map spd)]).length + 1), O.lst (ys.map spd)]) (M5 ++ [O.lst (ys.map spd)]).length ((M5 ++ [O.lst (ys.map spd)]).length + 1) p ((3 : Nat) : Int) k ys := make_at
  have gv := get_old (Z := [progO p ((3 : Nat) : Int) k ((M5 ++ [O.lst (ys.map spd)]).length + 1), O.lst (ys.map spd)]) (get_old (Z := [O.lst (ys.map spd)]) gv)
  generalize M5 ++ [O.lst (ys.map spd)] ++ [progO p ((3 : Nat) : Int) k ((M5 ++ [O.lst (ys.map spd)]).length + 1), O.lst (ys.map spd)] = M6 at hP gv ⊢
  generalize (M5 ++ [O.lst (ys.map spd)]).length + 1 = u2 at hP
  generalize (M5 ++ [O.lst (ys.map spd)]).length = z2 at hP ⊢
  generalize v + 2 = v at gv ⊢
  dsimp only
  walk_at "ds"
  refine (law_verdict_ok (p := p) (k := k) (n := 3) (t := 0) hp2 (by omega) hys.sp hys.noT (by omega) (by omega) (by decide) gv).ok ?_
  rintro due _ ⟨X7, rfl, hw⟩
  have hP := hP.app (X := X7)
  generalize M6 ++ X7 = M6 at hP hw ⊢
  walk_at "ds"
  refine (judge_ok (p := p) (k := k) (n := 3) (t := 0) hpr hp2 (by omega) hys.sp hys.noT (by omega) hwk (by decide) hP).ok ?_
  rintro fd _ ⟨X8, rfl, hw2⟩
  have hP := hP.app (X := X8)
  have hw := hw.app (X := X8)
  generalize M6 ++ X8 = M6 at hP hw hw2 ⊢
  cases hv : verd p 0 k 3 ys with
  | none =>
    rw [hv] at hw hw2
    cases hw
    cases hw2
    walk_at "ds"
    refine Wp.imp (Q := fun o => o = (Fl.rt (.bl true), M6)) ?_ ?_
    · walk_at "di"
    rintro _ rfl
    walk_at "ds"
  | some w =>
    rw [hv] at hw hw2
    have hr := found_refutes pok hP (by decide) (verd_ok (by omega) hv) hw2
    obtain ⟨l1, rfl⟩ := wit_tup hw
    obtain ⟨l2, rfl⟩ := wit_tup hw2
    walk_at "ds"
    refine Wp.imp (Q := fun o => o = (Fl.nx [some NS, some (.ref 1), some (.int p), some SD, some (.int k), some (.ref z), some (.ref a), some (.ref v), some (.ref z2), some (.tup l1), some (.tup l2), none], M6)) ?_ ?_
    · walk_at "di"
    rintro _ rfl
    walk_at "ds"
    refine hr.ok ?_
    rintro _ _ ⟨rfl, X9, rfl⟩
    walk_at "ds"
    unfold isbG
    walk_at "ds"
    all_goals rfl
theorem law_true (ns : List Int) (h : ns.length ≤ 63) : ∃ M, m_law [.fl (ns.map D.int)] [] = some (.ok (.bl true) M) := wp_law (law_ok ns h)
end G

end

section
set_option Elab.async false
set_option linter.all false
set_option maxRecDepth 100000
set_option maxHeartbeats 4000000
namespace E
open PySem PySem.Spec PyProof.Rows L2 DI G
theorem gi {mg : Str → Option Value} {x : Str} {i : Int} (h : ∃ t, mg x = some (.int i t)) : ∃ u, mg x = some u ∧ RelV (.int i) u := by
  obtain ⟨t, h⟩ := h
  exact ⟨_, h, t, rfl⟩
theorem facts {P : Program} {w : World} {K : PySem.W.Frag} {h : Heap} {mg : Str → Option Value} {f : Addr} (X : K.In h) (G : h.Ns mainGlobals mg) (hfa : mg ("law" : Str) = some (.ref f)) (cs : He.SaysT fa fn ts w K) (cx : (exl K).all id = true) :
    ∃ fd : FuncData, (∀ (s : Shared) (v : Value), BindsTo s fd ⟨[v], []⟩ [("_law_script", v)]) ∧ ∀ base : Heap, K.In base → base.Ns mainGlobals mg → FnOk P w K mg base (L2.CX P w) 10 f fd P_law (spD K mg 1 m_law) := by
  have c := cs.d
  obtain ⟨fd_is_integer, FD_is_integer⟩ := c.def_ 0 (d := e_is_integer) rfl
  obtain ⟨fd_is_number, FD_is_number⟩ := c.def_ 1 (d := e_is_number) rfl
  obtain ⟨fd_is_factor, FD_is_factor⟩ := c.def_ 2 (d := e_is_factor) rfl
  obtain ⟨fd_is_add, FD_is_add⟩ := c.def_ 3 (d := e_is_add) rfl
  obtain ⟨fd_is_table, FD_is_table⟩ := c.def_ 4 (d := e_is_table) rfl
  obtain ⟨fd_is_look, FD_is_look⟩ := c.def_ 5 (d := e_is_look) rfl
  obtain ⟨fd_inverse_of, FD_inverse_of⟩ := c.def_ 6 (d := e_inverse_of) rfl
  obtain ⟨fd_is_step, FD_is_step⟩ := c.def_ 7 (d := e_is_step) rfl
  obtain ⟨fd_is_prime, FD_is_prime⟩ := c.def_ 8 (d := e_is_prime) rfl
  obtain ⟨fd_check_steps, FD_check_steps⟩ := c.def_ 9 (d := e_check_steps) rfl
  obtain ⟨fd_Program___init__, FD_Program___init__⟩ := c.def_ 10 (d := e_Program___init__) rfl
  obtain ⟨fd__law_mixed, FD__law_mixed⟩ := c.def_ 11 (d := e__law_mixed) rfl
  obtain ⟨fd__law_draw, FD__law_draw⟩ := c.def_ 12 (d := e__law_draw) rfl
  obtain ⟨fd__law_source, FD__law_source⟩ := c.def_ 13 (d := e__law_source) rfl
  obtain ⟨fd__law_thin_source, FD__law_thin_source⟩ := c.def_ 14 (d := e__law_thin_source) rfl
  obtain ⟨fd__law_needs, FD__law_needs⟩ := c.def_ 15 (d := e__law_needs) rfl
  obtain ⟨fd_is_node, FD_is_node⟩ := c.def_ 16 (d := e_is_node) rfl
  obtain ⟨fd_check_source, FD_check_source⟩ := c.def_ 17 (d := e_check_source) rfl
  obtain ⟨fd_cost, FD_cost⟩ := c.def_ 18 (d := e_cost) rfl
  obtain ⟨fd_needs, FD_needs⟩ := c.def_ 19 (d := e_needs) rfl
  obtain ⟨fd_leaf_step, FD_leaf_step⟩ := c.def_ 20 (d := e_leaf_step) rfl
  obtain ⟨fd_product_tasks, FD_product_tasks⟩ := c.def_ 21 (d := e_product_tasks) rfl
  obtain ⟨fd_inner_tasks, FD_inner_tasks⟩ := c.def_ 22 (d := e_inner_tasks) rfl
  obtain ⟨fd_compile_source, FD_compile_source⟩ := c.def_ 23 (d := e_compile_source) rfl
  obtain ⟨fd_Program___len__, FD_Program___len__⟩ := c.def_ 24 (d := e_Program___len__) rfl
  obtain ⟨fd__law_changed, FD__law_changed⟩ := c.def_ 25 (d := e__law_changed) rfl
  obtain ⟨fd__law_points, FD__law_points⟩ := c.def_ 26 (d := e__law_points) rfl
  obtain ⟨fd__law_worth, FD__law_worth⟩ := c.def_ 27 (d := e__law_worth) rfl
  obtain ⟨fd__law_run, FD__law_run⟩ := c.def_ 28 (d := e__law_run) rfl
  obtain ⟨fd__law_first_spoilt, FD__law_first_spoilt⟩ := c.def_ 29 (d := e__law_first_spoilt) rfl
  obtain ⟨fd__law_first_leaky, FD__law_first_leaky⟩ := c.def_ 30 (d := e__law_first_leaky) rfl
  obtain ⟨fd__law_verdict, FD__law_verdict⟩ := c.def_ 31 (d := e__law_verdict) rfl
  obtain ⟨fd_check_program, FD_check_program⟩ := c.def_ 32 (d := e_check_program) rfl
  obtain ⟨fd_check_size, FD_check_size⟩ := c.def_ 33 (d := e_check_size) rfl
  obtain ⟨fd_points_of, FD_points_of⟩ := c.def_ 34 (d := e_points_of) rfl
  obtain ⟨fd_column_of, FD_column_of⟩ := c.def_ 35 (d := e_column_of) rfl
  obtain ⟨fd_added, FD_added⟩ := c.def_ 36 (d := e_added) rfl
  obtain ⟨fd_ends, FD_ends⟩ := c.def_ 37 (d := e_ends) rfl
  obtain ⟨fd_spoilt, FD_spoilt⟩ := c.def_ 38 (d := e_spoilt) rfl
  obtain ⟨fd_leaky, FD_leaky⟩ := c.def_ 39 (d := e_leaky) rfl
  obtain ⟨fd_judge, FD_judge⟩ := c.def_ 40 (d := e_judge) rfl
  obtain ⟨fd__law_numbers, FD__law_numbers⟩ := c.def_ 41 (d := e__law_numbers) rfl
  obtain ⟨fd_check_numbers, FD_check_numbers⟩ := c.def_ 42 (d := e_check_numbers) rfl
  obtain ⟨fd_weights, FD_weights⟩ := c.def_ 43 (d := e_weights) rfl
  obtain ⟨fd_interpolate, FD_interpolate⟩ := c.def_ 44 (d := e_interpolate) rfl
  obtain ⟨fd_perform, FD_perform⟩ := c.def_ 45 (d := e_perform) rfl
  obtain ⟨fd_Program_run, FD_Program_run⟩ := c.def_ 46 (d := e_Program_run) rfl
  obtain ⟨fd_change_of, FD_change_of⟩ := c.def_ 47 (d := e_change_of) rfl
  obtain ⟨fd_shows, FD_shows⟩ := c.def_ 48 (d := e_shows) rfl
  obtain ⟨fd_refutes, FD_refutes⟩ := c.def_ 49 (d := e_refutes) rfl
  obtain ⟨fd__law_meaning, FD__law_meaning⟩ := c.def_ 50 (d := e__law_meaning) rfl
  obtain ⟨fd_law, FD_law⟩ := c.def_ 51 (d := e_law) rfl
  have e := hfa.symm.trans (He.glo_ok X G (c.fact 93 (f := .glo "law") rfl))
  cases e
  have b := FunD.bindsA (ps := P_law) FD_law fun _ _ _ _ _ _ us hl => match us, hl with | [_], _ => rfl
  refine ⟨fd_law, fun s v => b s [v] rfl, fun base _ _ => ?_⟩
  have D_is_integer := d_is_integer (P := P) (w := w) (base := base) FD_is_integer (He.glo_ok X G (c.fact 3 (f := .glo "is_integer") rfl)) (He.free_ok X G (c.fact 0 (f := .free "isinstance") rfl)) (He.free_ok X G (c.fact 1 (f := .free "int") rfl)) (He.free_ok X G (c.fact 2 (f := .free "bool") rfl))
  have D_is_number := d_is_number (P := P) (w := w) (base := base) FD_is_number (He.glo_ok X G (c.fact 4 (f := .glo "is_number") rfl)) D_is_integer
  have D_is_factor := d_is_factor (P := P) (w := w) (base := base) FD_is_factor (He.glo_ok X G (c.fact 7 (f := .glo "is_factor") rfl)) (He.free_ok X G (c.fact 0 (f := .free "isinstance") rfl)) (He.free_ok X G (c.fact 5 (f := .free "tuple") rfl)) (He.free_ok X G (c.fact 6 (f := .free "len") rfl)) D_is_number
  have D_is_add := d_is_add (P := P) (w := w) (base := base) FD_is_add (He.glo_ok X G (c.fact 9 (f := .glo "is_add") rfl)) (He.free_ok X G (c.fact 0 (f := .free "isinstance") rfl)) (He.free_ok X G (c.fact 5 (f := .free "tuple") rfl)) (He.free_ok X G (c.fact 6 (f := .free "len") rfl)) (gi (He.int_ok X G (c.fact 8 (f := .int "FACTORS"  3) rfl))) D_is_number D_is_factor
  have D_is_table := d_is_table (P := P) (w := w) (base := base) FD_is_table (He.glo_ok X G (c.fact 10 (f := .glo "is_table") rfl)) (He.free_ok X G (c.fact 0 (f := .free "isinstance") rfl)) (He.free_ok X G (c.fact 5 (f := .free "tuple") rfl)) (He.free_ok X G (c.fact 6 (f := .free "len") rfl)) D_is_number
  have D_is_look := d_is_look (P := P) (w := w) (base := base) FD_is_look (He.glo_ok X G (c.fact 11 (f := .glo "is_look") rfl)) D_is_number D_is_integer D_is_table
  have D_inverse_of := d_inverse_of (P := P) (w := w) (base := base) FD_inverse_of (He.glo_ok X G (c.fact 12 (f := .glo "inverse_of") rfl)) 
  have D_is_step := d_is_step (P := P) (w := w) (base := base) FD_is_step (He.glo_ok X G (c.fact 13 (f := .glo "is_step") rfl)) (He.free_ok X G (c.fact 0 (f := .free "isinstance") rfl)) (He.free_ok X G (c.fact 5 (f := .free "tuple") rfl)) (He.free_ok X G (c.fact 6 (f := .free "len") rfl)) D_is_add D_is_number D_inverse_of D_is_look
  have D_is_prime := d_is_prime (P := P) (w := w) (base := base) FD_is_prime (He.glo_ok X G (c.fact 14 (f := .glo "is_prime") rfl)) 
  have D_check_steps := d_check_steps (P := P) (w := w) (base := base) FD_check_steps (He.glo_ok X G (c.fact 18 (f := .glo "check_steps") rfl)) (He.free_ok X G (c.fact 0 (f := .free "isinstance") rfl)) (He.free_ok X G (c.fact 15 (f := .free "list") rfl)) (He.free_ok X G (c.fact 6 (f := .free "len") rfl)) D_is_step D_is_prime (xcl_of (He.glo_ok X G (c.fact 16 (f := .glo "BadStep") rfl)) (c.fact 17 (f := .exc "BadStep") rfl))
  have D_Program___init__ := d_Program___init__ (P := P) (w := w) (base := base) FD_Program___init__ (He.glo_ok X G (c.fact 27 (f := .glo "Program") rfl)) (He.mkr_ok (c.fact 29 (f := .mkr "Program") rfl)) (He.free_ok X G (c.fact 15 (f := .free "list") rfl)) (gi (He.int_ok X G (c.fact 19 (f := .int "MODULUS"  1000000000) rfl))) (gi (He.int_ok X G (c.fact 20 (f := .int "CELLS"  60) rfl))) (gi (He.int_ok X G (c.fact 21 (f := .int "INPUTS_programs"  60) rfl))) (gi (He.int_ok X G (c.fact 22 (f := .int "STEPS"  20000) rfl))) D_is_integer D_check_steps (xcl_of (He.glo_ok X G (c.fact 16 (f := .glo "BadStep") rfl)) (c.fact 17 (f := .exc "BadStep") rfl)) ⟨_, (He.glo_ok X G (c.fact 27 (f := .glo "Program") rfl)), He.cls_ok (c.fact 28 (f := .cls "Program") rfl), (List.forall_mem_cons.mpr ⟨He.noat_ok (c.fact 26 (f := .noat "Program" "modulus") rfl), (List.forall_mem_cons.mpr ⟨He.noat_ok (c.fact 25 (f := .noat "Program" "cells") rfl), (List.forall_mem_cons.mpr ⟨He.noat_ok (c.fact 24 (f := .noat "Program" "inputs") rfl), (List.forall_mem_cons.mpr ⟨He.noat_ok (c.fact 23 (f := .noat "Program" "steps") rfl), (fun _ h => nomatch h)⟩)⟩)⟩)⟩)⟩
  have D__law_mixed := d__law_mixed (P := P) (w := w) (base := base) FD__law_mixed (He.glo_ok X G (c.fact 30 (f := .glo "_law_mixed") rfl)) 
  have D__law_draw := d__law_draw (P := P) (w := w) (base := base) FD__law_draw (He.glo_ok X G (c.fact 31 (f := .glo "_law_draw") rfl)) (He.free_ok X G (c.fact 6 (f := .free "len") rfl)) D__law_mixed
  have D__law_source := d__law_source (P := P) (w := w) (base := base) FD__law_source (He.glo_ok X G (c.fact 34 (f := .glo "_law_source") rfl)) (He.free_ok X G (c.fact 32 (f := .free "range") rfl)) (He.free_ok X G (c.fact 33 (f := .free "max") rfl)) (He.free_ok X G (c.fact 5 (f := .free "tuple") rfl)) D__law_draw
  have D__law_thin_source := d__law_thin_source (P := P) (w := w) (base := base) FD__law_thin_source (He.glo_ok X G (c.fact 35 (f := .glo "_law_thin_source") rfl)) D__law_draw D__law_source
  have D__law_needs := d__law_needs (P := P) (w := w) (base := base) FD__law_needs (He.glo_ok X G (c.fact 36 (f := .glo "_law_needs") rfl)) (He.free_ok X G (c.fact 33 (f := .free "max") rfl))
  have D_is_node := d_is_node (P := P) (w := w) (base := base) FD_is_node (He.glo_ok X G (c.fact 41 (f := .glo "is_node") rfl)) (He.free_ok X G (c.fact 0 (f := .free "isinstance") rfl)) (He.free_ok X G (c.fact 5 (f := .free "tuple") rfl)) (He.free_ok X G (c.fact 6 (f := .free "len") rfl)) (He.free_ok X G (c.fact 37 (f := .free "str") rfl)) (gi (He.int_ok X G (c.fact 38 (f := .int "CONSTANT"  1000000000) rfl))) (gi (He.int_ok X G (c.fact 39 (f := .int "INPUTS_sources"  60) rfl))) D_is_number (tbl_of (He.glo_ok X G (c.fact 40 (f := .glo "LENGTHS") rfl)) (tab_at cs 0) (ex_at cx 0))
  have D_check_source := d_check_source (P := P) (w := w) (base := base) FD_check_source (He.glo_ok X G (c.fact 46 (f := .glo "check_source") rfl)) (He.free_ok X G (c.fact 0 (f := .free "isinstance") rfl)) (He.free_ok X G (c.fact 5 (f := .free "tuple") rfl)) (He.free_ok X G (c.fact 6 (f := .free "len") rfl)) (He.free_ok X G (c.fact 42 (f := .free "enumerate") rfl)) (gi (He.int_ok X G (c.fact 43 (f := .int "NODES"  200) rfl))) D_is_node (xcl_of (He.glo_ok X G (c.fact 44 (f := .glo "BadSource") rfl)) (c.fact 45 (f := .exc "BadSource") rfl))
  have D_cost := d_cost (P := P) (w := w) (base := base) FD_cost (He.glo_ok X G (c.fact 47 (f := .glo "cost") rfl)) D_check_source
  have D_needs := d_needs (P := P) (w := w) (base := base) FD_needs (He.glo_ok X G (c.fact 48 (f := .glo "needs") rfl)) (He.free_ok X G (c.fact 33 (f := .free "max") rfl)) D_check_source
  have D_leaf_step := d_leaf_step (P := P) (w := w) (base := base) FD_leaf_step (He.glo_ok X G (c.fact 49 (f := .glo "leaf_step") rfl)) 
  have D_product_tasks := d_product_tasks (P := P) (w := w) (base := base) FD_product_tasks (He.glo_ok X G (c.fact 50 (f := .glo "product_tasks") rfl)) (He.free_ok X G (c.fact 32 (f := .free "range") rfl))
  have D_inner_tasks := d_inner_tasks (P := P) (w := w) (base := base) FD_inner_tasks (He.glo_ok X G (c.fact 51 (f := .glo "inner_tasks") rfl)) D_product_tasks
  have D_compile_source := d_compile_source (P := P) (w := w) (base := base) FD_compile_source (He.glo_ok X G (c.fact 55 (f := .glo "compile_source") rfl)) (He.free_ok X G (c.fact 6 (f := .free "len") rfl)) (gi (He.int_ok X G (c.fact 52 (f := .int "MOST_three"  20000) rfl))) D_cost D_needs D_Program___init__ D_leaf_step D_inner_tasks (xcl_of (He.glo_ok X G (c.fact 53 (f := .glo "TooLong") rfl)) (c.fact 54 (f := .exc "TooLong") rfl)) ⟨_, (He.glo_ok X G (c.fact 27 (f := .glo "Program") rfl)), He.cls_ok (c.fact 28 (f := .cls "Program") rfl), (List.forall_mem_cons.mpr ⟨He.noat_ok (c.fact 26 (f := .noat "Program" "modulus") rfl), (List.forall_mem_cons.mpr ⟨He.noat_ok (c.fact 25 (f := .noat "Program" "cells") rfl), (List.forall_mem_cons.mpr ⟨He.noat_ok (c.fact 24 (f := .noat "Program" "inputs") rfl), (List.forall_mem_cons.mpr ⟨He.noat_ok (c.fact 23 (f := .noat "Program" "steps") rfl), (fun _ h => nomatch h)⟩)⟩)⟩)⟩)⟩
  have D_Program___len__ := d_Program___len__ (P := P) (w := w) (base := base) FD_Program___len__ (He.glo_ok X G (c.fact 27 (f := .glo "Program") rfl)) (He.cls_ok (c.fact 28 (f := .cls "Program") rfl)) (He.meth_ok (c.fact 56 (f := .meth "Program" "__len__") rfl)) (He.free_ok X G (c.fact 6 (f := .free "len") rfl)) ⟨_, (He.glo_ok X G (c.fact 27 (f := .glo "Program") rfl)), He.cls_ok (c.fact 28 (f := .cls "Program") rfl), (List.forall_mem_cons.mpr ⟨He.noat_ok (c.fact 26 (f := .noat "Program" "modulus") rfl), (List.forall_mem_cons.mpr ⟨He.noat_ok (c.fact 25 (f := .noat "Program" "cells") rfl), (List.forall_mem_cons.mpr ⟨He.noat_ok (c.fact 24 (f := .noat "Program" "inputs") rfl), (List.forall_mem_cons.mpr ⟨He.noat_ok (c.fact 23 (f := .noat "Program" "steps") rfl), (fun _ h => nomatch h)⟩)⟩)⟩)⟩)⟩
  have D__law_changed := d__law_changed (P := P) (w := w) (base := base) FD__law_changed (He.glo_ok X G (c.fact 57 (f := .glo "_law_changed") rfl)) (He.free_ok X G (c.fact 15 (f := .free "list") rfl)) (He.free_ok X G (c.fact 6 (f := .free "len") rfl)) D__law_draw
  have D__law_points := d__law_points (P := P) (w := w) (base := base) FD__law_points (He.glo_ok X G (c.fact 58 (f := .glo "_law_points") rfl)) (He.free_ok X G (c.fact 32 (f := .free "range") rfl))
  have D__law_worth := d__law_worth (P := P) (w := w) (base := base) FD__law_worth (He.glo_ok X G (c.fact 59 (f := .glo "_law_worth") rfl)) 
  have D__law_run := d__law_run (P := P) (w := w) (base := base) FD__law_run (He.glo_ok X G (c.fact 60 (f := .glo "_law_run") rfl)) (He.free_ok X G (c.fact 15 (f := .free "list") rfl)) D__law_worth
  have D__law_first_spoilt := d__law_first_spoilt (P := P) (w := w) (base := base) FD__law_first_spoilt (He.glo_ok X G (c.fact 61 (f := .glo "_law_first_spoilt") rfl)) (He.free_ok X G (c.fact 32 (f := .free "range") rfl)) D__law_points D__law_run
  have D__law_first_leaky := d__law_first_leaky (P := P) (w := w) (base := base) FD__law_first_leaky (He.glo_ok X G (c.fact 62 (f := .glo "_law_first_leaky") rfl)) (He.free_ok X G (c.fact 32 (f := .free "range") rfl)) D__law_points D__law_run
  have D__law_verdict := d__law_verdict (P := P) (w := w) (base := base) FD__law_verdict (He.glo_ok X G (c.fact 63 (f := .glo "_law_verdict") rfl)) D__law_first_spoilt D__law_first_leaky
  have D_check_program := d_check_program (P := P) (w := w) (base := base) FD_check_program (He.glo_ok X G (c.fact 64 (f := .glo "check_program") rfl)) D_is_prime ⟨_, (He.glo_ok X G (c.fact 27 (f := .glo "Program") rfl)), He.cls_ok (c.fact 28 (f := .cls "Program") rfl), (List.forall_mem_cons.mpr ⟨He.noat_ok (c.fact 26 (f := .noat "Program" "modulus") rfl), (List.forall_mem_cons.mpr ⟨He.noat_ok (c.fact 25 (f := .noat "Program" "cells") rfl), (List.forall_mem_cons.mpr ⟨He.noat_ok (c.fact 24 (f := .noat "Program" "inputs") rfl), (List.forall_mem_cons.mpr ⟨He.noat_ok (c.fact 23 (f := .noat "Program" "steps") rfl), (fun _ h => nomatch h)⟩)⟩)⟩)⟩)⟩ (xcl_of (He.glo_ok X G (c.fact 16 (f := .glo "BadStep") rfl)) (c.fact 17 (f := .exc "BadStep") rfl))
  have D_check_size := d_check_size (P := P) (w := w) (base := base) FD_check_size (He.glo_ok X G (c.fact 66 (f := .glo "check_size") rfl)) (He.free_ok X G (c.fact 6 (f := .free "len") rfl)) (He.free_ok X G (c.fact 32 (f := .free "range") rfl)) (gi (He.int_ok X G (c.fact 65 (f := .int "MOST_judge"  400000) rfl))) ⟨_, (He.glo_ok X G (c.fact 27 (f := .glo "Program") rfl)), He.cls_ok (c.fact 28 (f := .cls "Program") rfl), (List.forall_mem_cons.mpr ⟨He.noat_ok (c.fact 26 (f := .noat "Program" "modulus") rfl), (List.forall_mem_cons.mpr ⟨He.noat_ok (c.fact 25 (f := .noat "Program" "cells") rfl), (List.forall_mem_cons.mpr ⟨He.noat_ok (c.fact 24 (f := .noat "Program" "inputs") rfl), (List.forall_mem_cons.mpr ⟨He.noat_ok (c.fact 23 (f := .noat "Program" "steps") rfl), (fun _ h => nomatch h)⟩)⟩)⟩)⟩)⟩ (xcl_of (He.glo_ok X G (c.fact 53 (f := .glo "TooLong") rfl)) (c.fact 54 (f := .exc "TooLong") rfl))
  have D_points_of := d_points_of (P := P) (w := w) (base := base) FD_points_of (He.glo_ok X G (c.fact 67 (f := .glo "points_of") rfl)) (He.free_ok X G (c.fact 32 (f := .free "range") rfl))
  have D_column_of := d_column_of (P := P) (w := w) (base := base) FD_column_of (He.glo_ok X G (c.fact 68 (f := .glo "column_of") rfl)) 
  have D_added := d_added (P := P) (w := w) (base := base) FD_added (He.glo_ok X G (c.fact 70 (f := .glo "added") rfl)) (He.free_ok X G (c.fact 69 (f := .free "zip") rfl)) ⟨_, (He.glo_ok X G (c.fact 27 (f := .glo "Program") rfl)), He.cls_ok (c.fact 28 (f := .cls "Program") rfl), (List.forall_mem_cons.mpr ⟨He.noat_ok (c.fact 26 (f := .noat "Program" "modulus") rfl), (List.forall_mem_cons.mpr ⟨He.noat_ok (c.fact 25 (f := .noat "Program" "cells") rfl), (List.forall_mem_cons.mpr ⟨He.noat_ok (c.fact 24 (f := .noat "Program" "inputs") rfl), (List.forall_mem_cons.mpr ⟨He.noat_ok (c.fact 23 (f := .noat "Program" "steps") rfl), (fun _ h => nomatch h)⟩)⟩)⟩)⟩)⟩
  have D_ends := d_ends (P := P) (w := w) (base := base) FD_ends (He.glo_ok X G (c.fact 71 (f := .glo "ends") rfl)) (He.free_ok X G (c.fact 32 (f := .free "range") rfl)) D_column_of D_added ⟨_, (He.glo_ok X G (c.fact 27 (f := .glo "Program") rfl)), He.cls_ok (c.fact 28 (f := .cls "Program") rfl), (List.forall_mem_cons.mpr ⟨He.noat_ok (c.fact 26 (f := .noat "Program" "modulus") rfl), (List.forall_mem_cons.mpr ⟨He.noat_ok (c.fact 25 (f := .noat "Program" "cells") rfl), (List.forall_mem_cons.mpr ⟨He.noat_ok (c.fact 24 (f := .noat "Program" "inputs") rfl), (List.forall_mem_cons.mpr ⟨He.noat_ok (c.fact 23 (f := .noat "Program" "steps") rfl), (fun _ h => nomatch h)⟩)⟩)⟩)⟩)⟩
  have D_spoilt := d_spoilt (P := P) (w := w) (base := base) FD_spoilt (He.glo_ok X G (c.fact 72 (f := .glo "spoilt") rfl)) (He.free_ok X G (c.fact 42 (f := .free "enumerate") rfl)) (He.free_ok X G (c.fact 32 (f := .free "range") rfl)) (He.free_ok X G (c.fact 15 (f := .free "list") rfl)) ⟨_, (He.glo_ok X G (c.fact 27 (f := .glo "Program") rfl)), He.cls_ok (c.fact 28 (f := .cls "Program") rfl), (List.forall_mem_cons.mpr ⟨He.noat_ok (c.fact 26 (f := .noat "Program" "modulus") rfl), (List.forall_mem_cons.mpr ⟨He.noat_ok (c.fact 25 (f := .noat "Program" "cells") rfl), (List.forall_mem_cons.mpr ⟨He.noat_ok (c.fact 24 (f := .noat "Program" "inputs") rfl), (List.forall_mem_cons.mpr ⟨He.noat_ok (c.fact 23 (f := .noat "Program" "steps") rfl), (fun _ h => nomatch h)⟩)⟩)⟩)⟩)⟩
  have D_leaky := d_leaky (P := P) (w := w) (base := base) FD_leaky (He.glo_ok X G (c.fact 73 (f := .glo "leaky") rfl)) (He.free_ok X G (c.fact 42 (f := .free "enumerate") rfl)) (He.free_ok X G (c.fact 32 (f := .free "range") rfl)) (He.free_ok X G (c.fact 15 (f := .free "list") rfl)) ⟨_, (He.glo_ok X G (c.fact 27 (f := .glo "Program") rfl)), He.cls_ok (c.fact 28 (f := .cls "Program") rfl), (List.forall_mem_cons.mpr ⟨He.noat_ok (c.fact 26 (f := .noat "Program" "modulus") rfl), (List.forall_mem_cons.mpr ⟨He.noat_ok (c.fact 25 (f := .noat "Program" "cells") rfl), (List.forall_mem_cons.mpr ⟨He.noat_ok (c.fact 24 (f := .noat "Program" "inputs") rfl), (List.forall_mem_cons.mpr ⟨He.noat_ok (c.fact 23 (f := .noat "Program" "steps") rfl), (fun _ h => nomatch h)⟩)⟩)⟩)⟩)⟩
  have D_judge := d_judge (P := P) (w := w) (base := base) FD_judge (He.glo_ok X G (c.fact 74 (f := .glo "judge") rfl)) D_check_program D_is_number D_check_size D_points_of D_ends D_spoilt D_leaky ⟨_, (He.glo_ok X G (c.fact 27 (f := .glo "Program") rfl)), He.cls_ok (c.fact 28 (f := .cls "Program") rfl), (List.forall_mem_cons.mpr ⟨He.noat_ok (c.fact 26 (f := .noat "Program" "modulus") rfl), (List.forall_mem_cons.mpr ⟨He.noat_ok (c.fact 25 (f := .noat "Program" "cells") rfl), (List.forall_mem_cons.mpr ⟨He.noat_ok (c.fact 24 (f := .noat "Program" "inputs") rfl), (List.forall_mem_cons.mpr ⟨He.noat_ok (c.fact 23 (f := .noat "Program" "steps") rfl), (fun _ h => nomatch h)⟩)⟩)⟩)⟩)⟩ (xcl_of (He.glo_ok X G (c.fact 16 (f := .glo "BadStep") rfl)) (c.fact 17 (f := .exc "BadStep") rfl))
  have D__law_numbers := d__law_numbers (P := P) (w := w) (base := base) FD__law_numbers (He.glo_ok X G (c.fact 75 (f := .glo "_law_numbers") rfl)) (He.free_ok X G (c.fact 32 (f := .free "range") rfl)) D__law_mixed
  have D_check_numbers := d_check_numbers (P := P) (w := w) (base := base) FD_check_numbers (He.glo_ok X G (c.fact 78 (f := .glo "check_numbers") rfl)) (He.free_ok X G (c.fact 0 (f := .free "isinstance") rfl)) (He.free_ok X G (c.fact 15 (f := .free "list") rfl)) (He.free_ok X G (c.fact 6 (f := .free "len") rfl)) D_is_number (xcl_of (He.glo_ok X G (c.fact 76 (f := .glo "BadMemory") rfl)) (c.fact 77 (f := .exc "BadMemory") rfl))
  have D_weights := d_weights (P := P) (w := w) (base := base) FD_weights (He.glo_ok X G (c.fact 79 (f := .glo "weights") rfl)) (He.free_ok X G (c.fact 32 (f := .free "range") rfl)) D_inverse_of
  have D_interpolate := d_interpolate (P := P) (w := w) (base := base) FD_interpolate (He.glo_ok X G (c.fact 80 (f := .glo "interpolate") rfl)) (He.free_ok X G (c.fact 6 (f := .free "len") rfl)) (He.free_ok X G (c.fact 69 (f := .free "zip") rfl)) D_weights
  have D_perform := d_perform (P := P) (w := w) (base := base) FD_perform (He.glo_ok X G (c.fact 81 (f := .glo "perform") rfl)) D_interpolate
  have D_Program_run := d_Program_run (P := P) (w := w) (base := base) FD_Program_run (He.glo_ok X G (c.fact 27 (f := .glo "Program") rfl)) (He.cls_ok (c.fact 28 (f := .cls "Program") rfl)) (He.meth_ok (c.fact 82 (f := .meth "Program" "run") rfl)) (He.free_ok X G (c.fact 15 (f := .free "list") rfl)) D_check_numbers D_perform ⟨_, (He.glo_ok X G (c.fact 27 (f := .glo "Program") rfl)), He.cls_ok (c.fact 28 (f := .cls "Program") rfl), (List.forall_mem_cons.mpr ⟨He.noat_ok (c.fact 26 (f := .noat "Program" "modulus") rfl), (List.forall_mem_cons.mpr ⟨He.noat_ok (c.fact 25 (f := .noat "Program" "cells") rfl), (List.forall_mem_cons.mpr ⟨He.noat_ok (c.fact 24 (f := .noat "Program" "inputs") rfl), (List.forall_mem_cons.mpr ⟨He.noat_ok (c.fact 23 (f := .noat "Program" "steps") rfl), (fun _ h => nomatch h)⟩)⟩)⟩)⟩)⟩
  have D_change_of := d_change_of (P := P) (w := w) (base := base) FD_change_of (He.glo_ok X G (c.fact 83 (f := .glo "change_of") rfl)) D_Program_run ⟨_, (He.glo_ok X G (c.fact 27 (f := .glo "Program") rfl)), He.cls_ok (c.fact 28 (f := .cls "Program") rfl), (List.forall_mem_cons.mpr ⟨He.noat_ok (c.fact 26 (f := .noat "Program" "modulus") rfl), (List.forall_mem_cons.mpr ⟨He.noat_ok (c.fact 25 (f := .noat "Program" "cells") rfl), (List.forall_mem_cons.mpr ⟨He.noat_ok (c.fact 24 (f := .noat "Program" "inputs") rfl), (List.forall_mem_cons.mpr ⟨He.noat_ok (c.fact 23 (f := .noat "Program" "steps") rfl), (fun _ h => nomatch h)⟩)⟩)⟩)⟩)⟩
  have D_shows := d_shows (P := P) (w := w) (base := base) FD_shows (He.glo_ok X G (c.fact 84 (f := .glo "shows") rfl)) D_is_number D_Program_run D_change_of ⟨_, (He.glo_ok X G (c.fact 27 (f := .glo "Program") rfl)), He.cls_ok (c.fact 28 (f := .cls "Program") rfl), (List.forall_mem_cons.mpr ⟨He.noat_ok (c.fact 26 (f := .noat "Program" "modulus") rfl), (List.forall_mem_cons.mpr ⟨He.noat_ok (c.fact 25 (f := .noat "Program" "cells") rfl), (List.forall_mem_cons.mpr ⟨He.noat_ok (c.fact 24 (f := .noat "Program" "inputs") rfl), (List.forall_mem_cons.mpr ⟨He.noat_ok (c.fact 23 (f := .noat "Program" "steps") rfl), (fun _ h => nomatch h)⟩)⟩)⟩)⟩)⟩
  have D_refutes := d_refutes (P := P) (w := w) (base := base) FD_refutes (He.glo_ok X G (c.fact 91 (f := .glo "refutes") rfl)) (He.free_ok X G (c.fact 0 (f := .free "isinstance") rfl)) (He.free_ok X G (c.fact 5 (f := .free "tuple") rfl)) (He.free_ok X G (c.fact 6 (f := .free "len") rfl)) D_is_number D_shows ⟨_, (He.glo_ok X G (c.fact 27 (f := .glo "Program") rfl)), He.cls_ok (c.fact 28 (f := .cls "Program") rfl), (List.forall_mem_cons.mpr ⟨He.noat_ok (c.fact 26 (f := .noat "Program" "modulus") rfl), (List.forall_mem_cons.mpr ⟨He.noat_ok (c.fact 25 (f := .noat "Program" "cells") rfl), (List.forall_mem_cons.mpr ⟨He.noat_ok (c.fact 24 (f := .noat "Program" "inputs") rfl), (List.forall_mem_cons.mpr ⟨He.noat_ok (c.fact 23 (f := .noat "Program" "steps") rfl), (fun _ h => nomatch h)⟩)⟩)⟩)⟩)⟩ (hnd_of (He.glo_ok X G (c.fact 76 (f := .glo "BadMemory") rfl)) (List.forall_mem_cons.mpr ⟨⟨(He.glo_ok X G (c.fact 89 (f := .glo "BrimfulError") rfl)), He.exm_ok (c.fact 90 (f := .exm "BrimfulError" "BadMemory" false) rfl)⟩, (List.forall_mem_cons.mpr ⟨⟨(He.glo_ok X G (c.fact 16 (f := .glo "BadStep") rfl)), He.exm_ok (c.fact 88 (f := .exm "BadStep" "BadMemory" false) rfl)⟩, (List.forall_mem_cons.mpr ⟨⟨(He.glo_ok X G (c.fact 76 (f := .glo "BadMemory") rfl)), He.exm_ok (c.fact 87 (f := .exm "BadMemory" "BadMemory" true) rfl)⟩, (List.forall_mem_cons.mpr ⟨⟨(He.glo_ok X G (c.fact 44 (f := .glo "BadSource") rfl)), He.exm_ok (c.fact 86 (f := .exm "BadSource" "BadMemory" false) rfl)⟩, (List.forall_mem_cons.mpr ⟨⟨(He.glo_ok X G (c.fact 53 (f := .glo "TooLong") rfl)), He.exm_ok (c.fact 85 (f := .exm "TooLong" "BadMemory" false) rfl)⟩, (fun _ h => nomatch h)⟩)⟩)⟩)⟩)⟩))
  have D__law_meaning := d__law_meaning (P := P) (w := w) (base := base) FD__law_meaning (He.glo_ok X G (c.fact 92 (f := .glo "_law_meaning") rfl)) (He.free_ok X G (c.fact 6 (f := .free "len") rfl))
  exact w_law FD_law (He.free_ok X G (c.fact 6 (f := .free "len") rfl)) (He.free_ok X G (c.fact 15 (f := .free "list") rfl)) D__law_numbers D__law_draw D__law_thin_source D__law_needs D_compile_source D_Program___len__ D_judge D__law_points D__law_meaning D__law_changed D_Program___init__ D__law_verdict D_refutes ⟨_, (He.glo_ok X G (c.fact 27 (f := .glo "Program") rfl)), He.cls_ok (c.fact 28 (f := .cls "Program") rfl), (List.forall_mem_cons.mpr ⟨He.noat_ok (c.fact 26 (f := .noat "Program" "modulus") rfl), (List.forall_mem_cons.mpr ⟨He.noat_ok (c.fact 25 (f := .noat "Program" "cells") rfl), (List.forall_mem_cons.mpr ⟨He.noat_ok (c.fact 24 (f := .noat "Program" "inputs") rfl), (List.forall_mem_cons.mpr ⟨He.noat_ok (c.fact 23 (f := .noat "Program" "steps") rfl), (fun _ h => nomatch h)⟩)⟩)⟩)⟩)⟩
end E
open PySem PySem.W PySem.Calls PyProof.Rows
theorem PySem.Challenge.cw_brimful_k49_compiled_programs_are_judged_holds : PySem.Challenge.rw_brimful_k49_compiled_programs_are_judged.Holds := by
  w_on; o_law
  refine HandSHeadRun.head_any (r := OpenLaw.row PySem.Challenge.rw_brimful_k49_compiled_programs_are_judged) (q := view (OpenLaw.row PySem.Challenge.rw_brimful_k49_compiled_programs_are_judged).prog [75]) (H := E.hk) (ob := E.ob) (M := 20000) (loose := E.loose) (d := HandSHeadRun.topDef (OpenLaw.row PySem.Challenge.rw_brimful_k49_compiled_programs_are_judged).prog 75) (kwd := []) E.ob_eq
    (by kernel_rfl) (fun s => by kernel_rfl) E.run (by kernel_rfl) (by kernel_rfl) (by kernel_rfl) (by rfl) (by first | assumption | decide +kernel) (by decide +kernel) ⟨rfl, rfl, rfl, rfl, rfl, by decide +kernel⟩ ?hw ?hc
  case hw => w_witness2
  case hc =>
    refine L2.walk_ofE (l := PySem.Challenge.rw_brimful_k49_compiled_programs_are_judged) (n := 63) (k := 10) (x := "_law_script") (CX := L2.CX0) rfl (by decide) (by kernel_rfl) ⟨rfl, by decide, by decide⟩ ?F (fun _ _ _ _ z => z)
    intro w mg fa h Y GN hmg0
    obtain ⟨K, KX, c, cx⟩ := Y
    have hmg : mg ("law" : PySem.Str) = some (.ref fa) := by
      have e : (HandSHeadRun.topDef (OpenLaw.row PySem.Challenge.rw_brimful_k49_compiled_programs_are_judged).prog 75).name = ("law" : PySem.Str) := by kernel_rfl
      rw [← e]
      exact hmg0
    obtain ⟨fd, hb, hF⟩ := E.facts (P := (PySem.Challenge.rw_brimful_k49_compiled_programs_are_judged).prog) (w := w) KX GN hmg c cx
    exact ⟨K, fd, fun vs H Q _ => DI.spD K mg 1 G.m_law vs H Q fun _ _ _ => False, KX, hb, fun H a ns hl hO hS => DI.sp_law G.law_true H a ns hl hO hS, fun base h1 h2 => DI.calm_of (hF base h1 h2)⟩
#print axioms PySem.Challenge.cw_brimful_k49_compiled_programs_are_judged_holds

end
