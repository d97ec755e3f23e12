import PyProof.Rows.All
import Wide.All
import OpenK.AllK
import Wide.FinOn
import HandS.ForMost
import HandS.ForExc
import HandS.More
import HandS.CallSlots
import HandS.IsInst
import HandS.ExcIs
import HandS.Rev
import HandS.TupAny
import HandS.HeadHook1
import PyProof.ExcBaseAll.ValueError
import HandS.Defaults
import HandS.HeadHook3
import HandS.HeadHook4
import HandS.HeadEnd
import HandS.Codes
import KE.KStateDown
import Lean
import HandS.Head0
import HandS.Head1
import HandS.Head2
import PySem.Challenge.RW_seek_k05_whole_texts_read
set_option Elab.async false
set_option linter.all false
set_option maxRecDepth 100000
set_option maxHeartbeats 0
/-! Sk: a functional reading of the small Python that these laws use. Data by value; a list or an instance that is changed stands in one slot and is handed in and out. -/
namespace Sk
noncomputable section
abbrev Txt := List Nat
inductive D where
  | non | bl (b : Bool) | int (i : Int) | str (s : Txt) | tup (l : List D) | lst (l : List D)
  | obj (c : String) (fs : List (String × D)) | dic (kvs : List (Txt × D)) | scr (l : List Int)
inductive F where
  | d (x : D) | own (l : List D)
/-- what a slot holds; b: lent by the caller -/
inductive A where
  | un | d (x : D) | own (b : Bool) (l : List D) | ins (b : Bool) (c : String) (fs : List (String × F)) | err (c : String)
/-- what an expression gives -/
inductive R where
  | d (x : D) | ref (i : Nat)
abbrev Slots := List A
inductive Res (α : Type) where
  | ok (a : α) (r : Slots) | exc (c : String) (r : Slots) | bad
def Res.bind {α β : Type} (x : Res α) (f : α → Slots → Res β) : Res β := match x with
  | .ok a r => f a r
  | .exc c r => .exc c r
  | .bad => .bad
@[simp] theorem Res.bind_ok {α β : Type} (a : α) (r : Slots) (f : α → Slots → Res β) : (Res.ok a r).bind f = f a r := rfl
@[simp] theorem Res.bind_exc {α β : Type} (c : String) (r : Slots) (f : α → Slots → Res β) : (Res.exc c r : Res α).bind f = .exc c r := rfl
@[simp] theorem Res.bind_bad {α β : Type} (f : α → Slots → Res β) : (Res.bad : Res α).bind f = .bad := rfl
theorem Res.bind_congr {α β : Type} {x y : Res α} (h : x = y) (f : α → Slots → Res β) : x.bind f = y.bind f := by rw [h]
abbrev EV := Slots → Res R
def at_ (r : Slots) (i : Nat) : A := r[i]?.getD .un
@[simp] theorem at_cons_zero (a : A) (r : Slots) : at_ (a :: r) 0 = a := rfl
@[simp] theorem at_cons_succ (a : A) (r : Slots) (i : Nat) : at_ (a :: r) (i + 1) = at_ r i := rfl
@[simp] theorem at_nil (i : Nat) : at_ [] i = .un := by simp [at_]
/-- the greatest size -/
abbrev line : Nat := 16777216
@[simp] def lookF (fs : List (String × F)) (f : String) : Option F := fs.lookup f
@[simp] def putFl (f : String) (v : F) : List (String × F) → List (String × F)
  | [] => [(f, v)]
  | (g, x) :: r => if g = f then (g, v) :: r else (g, x) :: putFl f v r
@[simp] def R.val (x : R) (r : Slots) : Option D := match x with
  | .d x => some x
  | .ref i => (match at_ r i with
    | .own _ l => some (.lst l)
    | _ => none)
@[simp] def ofOpt (o : Option D) (r : Slots) : Res R := match o with
  | some x => .ok (.d x) r
  | none => .bad
@[simp] theorem ofOpt_some (x : D) (r : Slots) : ofOpt (some x) r = .ok (.d x) r := rfl
@[simp] theorem ofOpt_none (r : Slots) : ofOpt none r = .bad := rfl

/-! ### expressions -/
def eC (x : D) : EV := fun r => .ok (.d x) r
@[simp] theorem eC_app (x : D) (r : Slots) : eC x r = (.ok (.d x) r
  ) := rfl
def eVar (i : Nat) : EV := fun r => match at_ r i with
  | .d x => .ok (.d x) r
  | .own _ _ => .ok (.ref i) r
  | .ins _ _ _ => .ok (.ref i) r
  | _ => .bad
@[simp] theorem eVar_app (i : Nat) (r : Slots) : eVar i r = (match at_ r i with
  | .d x => .ok (.d x) r
  | .own _ _ => .ok (.ref i) r
  | .ins _ _ _ => .ok (.ref i) r
  | _ => .bad
  ) := rfl
/-- a list of one's own, from now on a plain value -/
def eFrz (i : Nat) : EV := fun r => match at_ r i with
  | .d x => .ok (.d x) r
  | .own false l => .ok (.d (.lst l)) (r.set i (.d (.lst l)))
  | _ => .bad
@[simp] theorem eFrz_app (i : Nat) (r : Slots) : eFrz i r = (match at_ r i with
  | .d x => .ok (.d x) r
  | .own false l => .ok (.d (.lst l)) (r.set i (.d (.lst l)))
  | _ => .bad
  ) := rfl
abbrev Op1 := D → Option D
abbrev Op2 := D → D → Option D
def eOp1 (op : Op1) (a : EV) : EV := fun r => (a r).bind fun x r1 => ofOpt ((x.val r1).bind op) r1
@[simp] theorem eOp1_app (op : Op1) (a : EV) (r : Slots) : eOp1 op a r = ((a r).bind fun x r1 => ofOpt ((x.val r1).bind op) r1
  ) := rfl
def eOp (op : Op2) (a b : EV) : EV := fun r => (a r).bind fun x r1 => (b r1).bind fun y r2 => ofOpt ((x.val r2).bind fun u => (y.val r2).bind (op u)) r2
@[simp] theorem eOp_app (op : Op2) (a b : EV) (r : Slots) : eOp op a b r = ((a r).bind fun x r1 => (b r1).bind fun y r2 => ofOpt ((x.val r2).bind fun u => (y.val r2).bind (op u)) r2
  ) := rfl
/-! bounds; their decisions are not to be computed -/
def Fits (n : Nat) : Prop := n ≤ line
def Fit1 (n : Nat) : Prop := n < line
def Few (n : Nat) : Prop := n < 900
def divOk (j : Int) : Prop := 0 < j ∧ j < 1073741824
instance (n : Nat) : Decidable (Fits n) := Classical.propDecidable _
instance (n : Nat) : Decidable (Fit1 n) := Classical.propDecidable _
instance (n : Nat) : Decidable (Few n) := Classical.propDecidable _
instance (j : Int) : Decidable (divOk j) := Classical.propDecidable _
theorem fits_of {n : Nat} (h : n ≤ 1000000) : Fits n := by unfold Fits line; omega
theorem fit1_of {n : Nat} (h : n ≤ 1000000) : Fit1 n := by unfold Fit1 line; omega
theorem few_of {n : Nat} (h : n ≤ 100) : Few n := by unfold Few; omega
theorem divOk_of {j : Int} (h : 0 < j) (h2 : j ≤ 1000000) : divOk j := ⟨h, by omega⟩
@[simp] theorem fits_lit (n : Nat) : Fits (no_index (OfNat.ofNat n)) ↔ n ≤ 16777216 := Iff.rfl
@[simp] theorem fits_zero : Fits 0 := by unfold Fits line; omega
@[simp] theorem fits_one : Fits 1 := by unfold Fits line; omega
@[simp] theorem fit1_lit (n : Nat) : Fit1 (no_index (OfNat.ofNat n)) ↔ n < 16777216 := Iff.rfl
@[simp] theorem fit1_zero : Fit1 0 := by unfold Fit1 line; omega
@[simp] theorem fit1_one : Fit1 1 := by unfold Fit1 line; omega
@[simp] theorem few_lit (n : Nat) : Few (no_index (OfNat.ofNat n)) ↔ n < 900 := Iff.rfl
@[simp] theorem few_zero : Few 0 := by unfold Few; omega
@[simp] theorem few_one : Few 1 := by unfold Few; omega
@[simp] def okSz (n : Nat) (x : D) : Option D := if Fits n then some x else none
@[simp] def opAdd : Op2
  | .int i, .int j => some (.int (i + j))
  | .str s, .str t => okSz (s.length + t.length) (.str (s ++ t))
  | .tup s, .tup t => okSz (s.length + t.length) (.tup (s ++ t))
  | .lst s, .lst t => okSz (s.length + t.length) (.lst (s ++ t))
  | _, _ => none
@[simp] def opSub : Op2
  | .int i, .int j => some (.int (i - j))
  | _, _ => none
def mulOk (i j : Int) : Prop := (-(2 ^ 64) < i ∧ i < 2 ^ 64) ∨ (-(2 ^ 64) < j ∧ j < 2 ^ 64)
instance (i j : Int) : Decidable (mulOk i j) := Classical.propDecidable _
@[simp] def opMul : Op2
  | .int i, .int j => if mulOk i j then some (.int (i * j)) else none
  | _, _ => none
theorem mulOk_l {i j : Int} (h : -1000000000000 ≤ i) (h2 : i ≤ 1000000000000) : mulOk i j := .inl ⟨by omega, by omega⟩
theorem mulOk_r {i j : Int} (h : -1000000000000 ≤ j) (h2 : j ≤ 1000000000000) : mulOk i j := .inr ⟨by omega, by omega⟩
@[simp] def opDiv : Op2
  | .int i, .int j => if divOk j then some (.int (i / j)) else none
  | _, _ => none
@[simp] def opMod : Op2
  | .int i, .int j => if 0 < j then some (.int (i % j)) else none
  | _, _ => none
@[simp] def opNeg : Op1
  | .int i => some (.int (-i))
  | _ => none
@[simp] def opLt : Op2
  | .int i, .int j => some (.bl (decide (i < j)))
  | _, _ => none
@[simp] def opLe : Op2
  | .int i, .int j => some (.bl (decide (i ≤ j)))
  | _, _ => none
@[simp] def opGt : Op2
  | .int i, .int j => some (.bl (decide (j < i)))
  | _, _ => none
@[simp] def opGe : Op2
  | .int i, .int j => some (.bl (decide (j ≤ i)))
  | _, _ => none
/-- == : scalars of one kind, None beside them, a text beside a number; lists where one is empty -/
def eqD : D → D → Option Bool
  | .non, .non => some true
  | .non, .int _ => some false
  | .int _, .non => some false
  | .non, .bl _ => some false
  | .bl _, .non => some false
  | .non, .str _ => some false
  | .str _, .non => some false
  | .int i, .int j => some (decide (i = j))
  | .bl i, .bl j => some (decide (i = j))
  | .str i, .str j => some (decide (i = j))
  | .int _, .str _ => some false
  | .str _, .int _ => some false
  | .lst [], .lst [] => some true
  | .lst (_ :: _), .lst [] => some false
  | .lst [], .lst (_ :: _) => some false
  | _, _ => none
@[simp] theorem eqD_0 : eqD .non .non = some (true) := rfl
@[simp] theorem eqD_1 (i : Int) : eqD .non (.int i) = some (false) := rfl
@[simp] theorem eqD_2 (i : Int) : eqD (.int i) .non = some (false) := rfl
@[simp] theorem eqD_3 (b : Bool) : eqD .non (.bl b) = some (false) := rfl
@[simp] theorem eqD_4 (b : Bool) : eqD (.bl b) .non = some (false) := rfl
@[simp] theorem eqD_5 (s : Txt) : eqD .non (.str s) = some (false) := rfl
@[simp] theorem eqD_6 (s : Txt) : eqD (.str s) .non = some (false) := rfl
@[simp] theorem eqD_7 (i j : Int) : eqD (.int i) (.int j) = some (decide (i = j)) := rfl
@[simp] theorem eqD_8 (b e : Bool) : eqD (.bl b) (.bl e) = some (decide (b = e)) := rfl
@[simp] theorem eqD_9 (s t : Txt) : eqD (.str s) (.str t) = some (decide (s = t)) := rfl
@[simp] theorem eqD_10 (i : Int) (s : Txt) : eqD (.int i) (.str s) = some (false) := rfl
@[simp] theorem eqD_11 (i : Int) (s : Txt) : eqD (.str s) (.int i) = some (false) := rfl
@[simp] theorem eqD_12 : eqD (.lst []) (.lst []) = some (true) := rfl
@[simp] theorem eqD_13 (x : D) (l : List D) : eqD (.lst (x :: l)) (.lst []) = some (false) := rfl
@[simp] theorem eqD_14 (x : D) (l : List D) : eqD (.lst []) (.lst (x :: l)) = some (false) := rfl
def opEq : Op2 := fun a b => (eqD a b).map .bl
@[simp] theorem opEq_app (a b : D) : opEq  a b = ((eqD a b).map .bl
  ) := rfl
def opNe : Op2 := fun a b => (eqD a b).map fun z => .bl (!z)
@[simp] theorem opNe_app (a b : D) : opNe  a b = ((eqD a b).map fun z => .bl (!z)
  ) := rfl
@[simp] def opIsN : Op1
  | .non => some (.bl true)
  | .bl _ => some (.bl false)
  | .int _ => some (.bl false)
  | .str _ => some (.bl false)
  | .tup _ => some (.bl false)
  | .lst _ => some (.bl false)
  | .obj _ _ => some (.bl false)
  | .dic _ => some (.bl false)
  | .scr _ => none
def opNotN : Op1 := fun a => (opIsN a).bind fun
  | .bl b => some (.bl (!b))
  | _ => none
@[simp] theorem opNotN_app (a : D) : opNotN  a = ((opIsN a).bind fun
  | .bl b => some (.bl (!b))
  | _ => none
  ) := rfl
/-- a scalar that stands in a row of scalars -/
def flatD : D → Bool
  | .non => true
  | .int _ => true
  | .str _ => true
  | _ => false
def sameD : D → D → Bool
  | .non, .non => true
  | .int i, .int j => decide (i = j)
  | .str i, .str j => decide (i = j)
  | _, _ => false
def inD (x y : D) : Option Bool := match y with
  | .str t => (match x with
    | .str [c] => some (decide (c ∈ t))
    | _ => none)
  | .dic kvs => (match x with
    | .str s => some ((kvs.lookup s).isSome)
    | _ => none)
  | .tup l => if flatD x && l.all flatD then some (l.any fun y => sameD y x) else none
  | .lst l => if flatD x && l.all flatD then some (l.any fun y => sameD y x) else none
  | _ => none
def opIn : Op2 := fun a b => (inD a b).map .bl
@[simp] theorem opIn_app (a b : D) : opIn  a b = ((inD a b).map .bl
  ) := rfl
def opNin : Op2 := fun a b => (inD a b).map fun z => .bl (!z)
@[simp] theorem opNin_app (a b : D) : opNin  a b = ((inD a b).map fun z => .bl (!z)
  ) := rfl
def ixK (n : Nat) (i : Int) : Option Nat := if 0 ≤ i then (if i < n then some i.toNat else none) else if -(n : Int) ≤ i then some (i + n).toNat else none
def itemK {α : Type} (l : List α) (i : Int) : Option α := (ixK l.length i).bind fun j => l[j]?
@[simp] def opItem : Op2
  | .tup l, .int i => itemK l i
  | .lst l, .int i => itemK l i
  | .str s, .int i => (itemK s i).map fun c => .str [c]
  | .dic kvs, .str k => kvs.lookup k
  | _, _ => none
@[simp] def opCat : Op2
  | .lst s, .lst t => opAdd (.lst s) (.lst t)
  | _, _ => none
/-- in, not in: not of a dict -/
def opInS : Op2 := fun a b => match b with
  | .dic _ => none
  | b => opIn a b
@[simp] theorem opInS_app (a b : D) : opInS  a b = (match b with
  | .dic _ => none
  | b => opIn a b
  ) := rfl
def opNinS : Op2 := fun a b => match b with
  | .dic _ => none
  | b => opNin a b
@[simp] theorem opNinS_app (a b : D) : opNinS  a b = (match b with
  | .dic _ => none
  | b => opNin a b
  ) := rfl
/-- items of lists, tuples, texts -/
def opItemS : Op2 := fun a b => match a with
  | .dic _ => none
  | a => opItem a b
@[simp] theorem opItemS_app (a b : D) : opItemS  a b = (match a with
  | .dic _ => none
  | a => opItem a b
  ) := rfl
/-- of dicts alone -/
def opItemD : Op2 := fun u v => match u with
  | .dic kvs => opItem (.dic kvs) v
  | _ => none
@[simp] theorem opItemD_app (u v : D) : opItemD  u v = (match u with
  | .dic kvs => opItem (.dic kvs) v
  | _ => none
  ) := rfl
def opInD : Op2 := fun u v => match v with
  | .dic kvs => opIn u (.dic kvs)
  | _ => none
@[simp] theorem opInD_app (u v : D) : opInD  u v = (match v with
  | .dic kvs => opIn u (.dic kvs)
  | _ => none
  ) := rfl
def opNinD : Op2 := fun u v => match v with
  | .dic kvs => opNin u (.dic kvs)
  | _ => none
@[simp] theorem opNinD_app (u v : D) : opNinD  u v = (match v with
  | .dic kvs => opNin u (.dic kvs)
  | _ => none
  ) := rfl
def sIx (n d : Nat) : Option Int → Nat
  | none => d
  | some v => if v < 0 then (v + (n : Int)).toNat else min v.toNat n
def cut {α : Type} (l : List α) (lo hi : Option Int) : List α := (l.drop (sIx l.length 0 lo)).take (sIx l.length l.length hi - sIx l.length 0 lo)
@[simp] def cutD (x : D) (lo hi : Option Int) : Option D := match x with
  | .str s => some (.str (cut s lo hi))
  | .tup s => some (.tup (cut s lo hi))
  | .lst s => some (.lst (cut s lo hi))
  | _ => none
/-- a part of a slice -/
abbrev PV := Slots → Res (Option Int)
def pNone : PV := fun r => .ok none r
@[simp] theorem pNone_app (r : Slots) : pNone  r = (.ok none r
  ) := rfl
def pSome (a : EV) : PV := fun r => (a r).bind fun x r1 => match x with
  | .d (.int i) => .ok (some i) r1
  | _ => .bad
@[simp] theorem pSome_app (a : EV) (r : Slots) : pSome a r = ((a r).bind fun x r1 => match x with
  | .d (.int i) => .ok (some i) r1
  | _ => .bad
  ) := rfl
def eSlice (a : EV) (lo hi : PV) : EV := fun r => (a r).bind fun x r1 => (lo r1).bind fun l r2 => (hi r2).bind fun h r3 => ofOpt ((x.val r3).bind fun u => cutD u l h) r3
@[simp] theorem eSlice_app (a : EV) (lo hi : PV) (r : Slots) : eSlice a lo hi r = ((a r).bind fun x r1 => (lo r1).bind fun l r2 => (hi r2).bind fun h r3 => ofOpt ((x.val r3).bind fun u => cutD u l h) r3
  ) := rfl
/-! ### arguments, displays -/
abbrev AV := Slots → Res (List R)
def aNil : AV := fun r => .ok [] r
@[simp] theorem aNil_app (r : Slots) : aNil  r = (.ok [] r
  ) := rfl
def aCons (a : EV) (b : AV) : AV := fun r => (a r).bind fun x r1 => (b r1).bind fun xs r2 => .ok (x :: xs) r2
@[simp] theorem aCons_app (a : EV) (b : AV) (r : Slots) : aCons a b r = ((a r).bind fun x r1 => (b r1).bind fun xs r2 => .ok (x :: xs) r2
  ) := rfl
/-- plain values alone -/
@[simp] def datas : List R → Option (List D)
  | [] => some []
  | .d x :: r => (datas r).map (x :: ·)
  | _ :: _ => none
def eTup (a : AV) : EV := fun r => (a r).bind fun xs r1 => match datas xs with
  | some l => if Fits l.length then .ok (.d (.tup l)) r1 else .bad
  | none => .bad
@[simp] theorem eTup_app (a : AV) (r : Slots) : eTup a r = ((a r).bind fun xs r1 => match datas xs with
  | some l => if Fits l.length then .ok (.d (.tup l)) r1 else .bad
  | none => .bad
  ) := rfl
def eLst (a : AV) : EV := fun r => (a r).bind fun xs r1 => match datas xs with
  | some l => if Fits l.length then .ok (.d (.lst l)) r1 else .bad
  | none => .bad
@[simp] theorem eLst_app (a : AV) (r : Slots) : eLst a r = ((a r).bind fun xs r1 => match datas xs with
  | some l => if Fits l.length then .ok (.d (.lst l)) r1 else .bad
  | none => .bad
  ) := rfl
/-- a dict of written text keys, all different -/
def eDic (ks : List Txt) (a : AV) : EV := fun r => (a r).bind fun xs r1 => match datas xs with
  | some l => if l.length = ks.length then .ok (.d (.dic (ks.zip l))) r1 else .bad
  | none => .bad
@[simp] theorem eDic_app (ks : List Txt) (a : AV) (r : Slots) : eDic ks a r = ((a r).bind fun xs r1 => match datas xs with
  | some l => if l.length = ks.length then .ok (.d (.dic (ks.zip l))) r1 else .bad
  | none => .bad
  ) := rfl
/-! ### built-ins -/
@[simp] def opLen : Op1
  | .str s => some (.int s.length)
  | .tup s => some (.int s.length)
  | .lst s => some (.int s.length)
  | _ => none
@[simp] def opOrd : Op1
  | .str [c] => some (.int c)
  | _ => none
@[simp] def opInt : Op1
  | .int i => some (.int i)
  | .bl b => some (.int (if b then 1 else 0))
  | .str [c] => if 48 ≤ c ∧ c ≤ 57 then some (.int ((c : Int) - 48)) else none
  | _ => none
/-- str of a number of one or two figures -/
@[simp] def opStr : Op1
  | .int i => if 0 ≤ i ∧ i < 10 then some (.str [48 + i.toNat]) else none
  | _ => none
@[simp] def opMin2 : Op2
  | .int i, .int j => some (.int (if j < i then j else i))
  | _, _ => none
@[simp] def opMax2 : Op2
  | .int i, .int j => some (.int (if j > i then j else i))
  | _, _ => none
def allInt : List D → Option (List Int)
  | [] => some []
  | .int i :: r => (allInt r).map (i :: ·)
  | _ :: _ => none
@[simp] def opSum : Op1
  | .lst l => (allInt l).map fun ns => .int ns.sum
  | _ => none
def minL : Int → List Int → Int
  | m, [] => m
  | m, x :: r => minL (if x < m then x else m) r
def maxL : Int → List Int → Int
  | m, [] => m
  | m, x :: r => maxL (if x > m then x else m) r
@[simp] def opMinL : Op1
  | .lst l => (match allInt l with
    | some (x :: r) => some (.int (minL x r))
    | _ => none)
  | _ => none
@[simp] def opMaxL : Op1
  | .lst l => (match allInt l with
    | some (x :: r) => some (.int (maxL x r))
    | _ => none)
  | _ => none
@[simp] def opTuple : Op1
  | .lst l => some (.tup l)
  | .tup l => some (.tup l)
  | _ => none
@[simp] def opList : Op1
  | .lst l => some (.lst l)
  | .tup l => some (.lst l)
  | .scr l => some (.lst (l.map .int))
  | _ => none
@[simp] def opRev : Op1
  | .lst l => some (.lst l.reverse)
  | _ => none
def allStr : List D → Option (List Txt)
  | [] => some []
  | .str i :: r => (allStr r).map (i :: ·)
  | _ :: _ => none
def joinT (sep : Txt) : List Txt → Txt
  | [] => []
  | [x] => x
  | x :: r => x ++ (sep ++ joinT sep r)
@[simp] def opJoin (sep : Txt) : Op1
  | .lst l => (allStr l).bind fun xs => okSz ((xs.map List.length).sum + xs.length * sep.length) (.str (joinT sep xs))
  | _ => none
inductive Ty where
  | bool | int | str | tuple | list
  deriving DecidableEq
@[simp] def isTy : Ty → D → Option Bool
  | .bool, .bl _ => some true
  | .int, .bl _ => some true
  | .int, .int _ => some true
  | .str, .str _ => some true
  | .tuple, .tup _ => some true
  | .list, .lst _ => some true
  | _, .obj _ _ => none
  | _, .dic _ => none
  | _, .scr _ => none
  | _, _ => some false
def opIsTy (t : Ty) : Op1 := fun x => (isTy t x).map .bl
@[simp] theorem opIsTy_app (t : Ty) (x : D) : opIsTy t x = ((isTy t x).map .bl
  ) := rfl
/-! ### truth -/
abbrev TV := Slots → Res Bool
def tst (a : EV) : TV := fun r => (a r).bind fun x r1 => match x with
  | .d (.bl b) => .ok b r1
  | _ => .bad
@[simp] theorem tst_app (a : EV) (r : Slots) : tst a r = ((a r).bind fun x r1 => match x with
  | .d (.bl b) => .ok b r1
  | _ => .bad
  ) := rfl
def eIf (t a b : EV) : EV := fun r => (tst t r).bind fun c r1 => if c then a r1 else b r1
@[simp] theorem eIf_app (t a b : EV) (r : Slots) : eIf t a b r = ((tst t r).bind fun c r1 => if c then a r1 else b r1
  ) := rfl
def eAnd (a b : EV) : EV := fun r => (tst a r).bind fun c r1 => if c then (tst b r1).bind (fun d r2 => .ok (.d (.bl d)) r2) else .ok (.d (.bl false)) r1
@[simp] theorem eAnd_app (a b : EV) (r : Slots) : eAnd a b r = ((tst a r).bind fun c r1 => if c then (tst b r1).bind (fun d r2 => .ok (.d (.bl d)) r2) else .ok (.d (.bl false)) r1
  ) := rfl
def eOr (a b : EV) : EV := fun r => (tst a r).bind fun c r1 => if c then .ok (.d (.bl true)) r1 else (tst b r1).bind (fun d r2 => .ok (.d (.bl d)) r2)
@[simp] theorem eOr_app (a b : EV) (r : Slots) : eOr a b r = ((tst a r).bind fun c r1 => if c then .ok (.d (.bl true)) r1 else (tst b r1).bind (fun d r2 => .ok (.d (.bl d)) r2)
  ) := rfl
def eNot (a : EV) : EV := fun r => (tst a r).bind fun c r1 => .ok (.d (.bl (!c))) r1
@[simp] theorem eNot_app (a : EV) (r : Slots) : eNot a r = ((tst a r).bind fun c r1 => .ok (.d (.bl (!c))) r1
  ) := rfl
/-- a op b op' c -/
def eChain (op op' : Op2) (a b c : EV) : EV := fun r => (a r).bind fun x r1 => (b r1).bind fun y r2 => match (x.val r2).bind fun u => (y.val r2).bind (op u) with
  | some (.bl true) => (c r2).bind fun z r3 => ofOpt ((y.val r3).bind fun u => (z.val r3).bind (op' u)) r3
  | some (.bl false) => .ok (.d (.bl false)) r2
  | _ => .bad
@[simp] theorem eChain_app (op op' : Op2) (a b c : EV) (r : Slots) : eChain op op' a b c r = ((a r).bind fun x r1 => (b r1).bind fun y r2 => match (x.val r2).bind fun u => (y.val r2).bind (op u) with
  | some (.bl true) => (c r2).bind fun z r3 => ofOpt ((y.val r3).bind fun u => (z.val r3).bind (op' u)) r3
  | some (.bl false) => .ok (.d (.bl false)) r2
  | _ => .bad
  ) := rfl
/-! ### defs -/
inductive RV where
  | d (x : D) | own (l : List D) | ins (c : String) (fs : List (String × F))
inductive FRes where
  | ok (v : RV) (outs : List A) | exc (c : String) | bad
abbrev FSem := List A → FRes
/-- what is handed in -/
@[simp] def lend (x : R) (r : Slots) : Option A := match x with
  | .d x => some (.d x)
  | .ref i => (match at_ r i with
    | .own _ l => some (.own true l)
    | .ins _ c fs => some (.ins true c fs)
    | _ => none)
@[simp] def lends (xs : List R) (r : Slots) : Option (List A) := match xs with
  | [] => some []
  | x :: xs => (lend x r).bind fun a => (lends xs r).map (a :: ·)
@[simp] def refsOf : List R → List Nat
  | [] => []
  | .ref i :: r => i :: refsOf r
  | _ :: r => refsOf r
/-- what comes back to a slot -/
@[simp] def back1 (old new : A) : Option A := match old, new with
  | .own b _, .own true l => some (.own b l)
  | .ins b c _, .ins true c' fs => if c = c' then some (.ins b c fs) else none
  | _, _ => none
@[simp] def backs : List R → List A → Slots → Option Slots
  | [], [], r => some r
  | .ref i :: xs, o :: os, r => (back1 (at_ r i) o).bind fun a => backs xs os (r.set i a)
  | .d _ :: xs, _ :: os, r => backs xs os r
  | _, _, _ => none
/-- the slots that were lent to a call that raised -/
@[simp] def lost : List R → Slots → Slots
  | [], r => r
  | .ref i :: xs, r => lost xs (r.set i .un)
  | _ :: xs, r => lost xs r
@[simp] def frzF : List (String × F) → List (String × D)
  | [] => []
  | (f, .d x) :: r => (f, x) :: frzF r
  | (f, .own l) :: r => (f, .lst l) :: frzF r
@[simp] def RV.toD : RV → D
  | .d x => x
  | .own l => .lst l
  | .ins c fs => .obj c (frzF fs)
/-- a call by values: the result, the slots behind it -/
def callK (o : FRes) (xs : List R) (r : Slots) : Res RV := match o with
  | .ok v outs => (match backs xs outs r with
    | some r' => .ok v r'
    | none => .bad)
  | .exc c => .exc c (lost xs r)
  | .bad => .bad
@[simp] theorem callK_ok (v : RV) (outs : List A) (xs : List R) (r : Slots) : callK (.ok v outs) xs r = match backs xs outs r with
    | some r' => .ok v r'
    | none => .bad := rfl
@[simp] theorem callK_exc (c : String) (xs : List R) (r : Slots) : callK (.exc c) xs r = .exc c (lost xs r) := rfl
@[simp] theorem callK_bad (xs : List R) (r : Slots) : callK .bad xs r = .bad := rfl
theorem callK_congr {x y : FRes} (h : x = y) (xs : List R) (r : Slots) : callK x xs r = callK y xs r := by rw [h]
@[simp] def callV (f : FSem) (xs : List R) (r : Slots) : Res RV := if (refsOf xs).Nodup then (match lends xs r with
    | some as => callK (f as) xs r
    | none => .bad) else .bad
def eCall (f : FSem) (a : AV) : EV := fun r => (a r).bind fun xs r1 => (callV f xs r1).bind fun v r2 => .ok (.d v.toD) r2
@[simp] theorem eCall_app (f : FSem) (a : AV) (r : Slots) : eCall f a r = ((a r).bind fun xs r1 => (callV f xs r1).bind fun v r2 => .ok (.d v.toD) r2
  ) := rfl
/-- o.m(..): o an instance of the class c without an m of its own -/
@[simp] def recvOk (c m : String) (x : R) (r : Slots) : Bool := match x with
  | .d (.obj c' fs) => decide (c = c') && (fs.lookup m).isNone
  | .ref i => (match at_ r i with
    | .ins _ c' fs => decide (c = c') && (lookF fs m).isNone
    | _ => false)
  | _ => false
def eMeth (c m : String) (f : FSem) (o : EV) (a : AV) : EV := fun r => (o r).bind fun x r1 => if recvOk c m x r1 then (a r1).bind fun xs r2 => (callV f (x :: xs) r2).bind fun v r3 => .ok (.d v.toD) r3 else .bad
@[simp] theorem eMeth_app (c m : String) (f : FSem) (o : EV) (a : AV) (r : Slots) : eMeth c m f o a r = ((o r).bind fun x r1 => if recvOk c m x r1 then (a r1).bind fun xs r2 => (callV f (x :: xs) r2).bind fun v r3 => .ok (.d v.toD) r3 else .bad
  ) := rfl
/-- C(..): what __init__ makes of a new instance -/
@[simp] def newV (c : String) (init : FSem) (xs : List R) (r : Slots) : Res (List (String × F)) := if (refsOf xs).Nodup then (match lends xs r with
    | some as => (match init (.ins true c [] :: as) with
      | .ok (.d .non) (.ins true c' fs :: outs) => if c = c' then (match backs xs outs r with
        | some r' => .ok fs r'
        | none => .bad) else .bad
      | .exc e => .exc e (lost xs r)
      | _ => .bad)
    | none => .bad) else .bad
def eNew (c : String) (init : FSem) (a : AV) : EV := fun r => (a r).bind fun xs r1 => (newV c init xs r1).bind fun fs r2 => .ok (.d (.obj c (frzF fs))) r2
@[simp] theorem eNew_app (c : String) (init : FSem) (a : AV) (r : Slots) : eNew c init a r = ((a r).bind fun xs r1 => (newV c init xs r1).bind fun fs r2 => .ok (.d (.obj c (frzF fs))) r2
  ) := rfl
/-- C(..).m(x), x a slot of data -/
def eNewM (c : String) (init : FSem) (m : String) (f : FSem) (a : AV) (j : Nat) : EV := fun r => (a r).bind fun xs r1 => (newV c init xs r1).bind fun fs r2 => match lookF fs m, at_ r2 j with
  | none, .d x => (match f [.ins true c fs, .d x] with
    | .ok v [.ins true c' _, _] => if c = c' then .ok (.d v.toD) r2 else .bad
    | .exc e => .exc e r2
    | _ => .bad)
  | _, _ => .bad
@[simp] theorem eNewM_app (c : String) (init : FSem) (m : String) (f : FSem) (a : AV) (j : Nat) (r : Slots) : eNewM c init m f a j r = ((a r).bind fun xs r1 => (newV c init xs r1).bind fun fs r2 => match lookF fs m, at_ r2 j with
  | none, .d x => (match f [.ins true c fs, .d x] with
    | .ok v [.ins true c' _, _] => if c = c' then .ok (.d v.toD) r2 else .bad
    | .exc e => .exc e r2
    | _ => .bad)
  | _, _ => .bad
  ) := rfl
def eFld (c : String) (o : EV) (f : String) : EV := fun r => (o r).bind fun x r1 => match x with
  | .d (.obj c' fs) => if c = c' then ofOpt (fs.lookup f) r1 else .bad
  | .ref i => (match at_ r1 i with
    | .ins _ c' fs => if c = c' then (match lookF fs f with
      | some (.d x) => .ok (.d x) r1
      | _ => .bad) else .bad
    | _ => .bad)
  | _ => .bad
@[simp] theorem eFld_app (c : String) (o : EV) (f : String) (r : Slots) : eFld c o f r = ((o r).bind fun x r1 => match x with
  | .d (.obj c' fs) => if c = c' then ofOpt (fs.lookup f) r1 else .bad
  | .ref i => (match at_ r1 i with
    | .ins _ c' fs => if c = c' then (match lookF fs f with
      | some (.d x) => .ok (.d x) r1
      | _ => .bad) else .bad
    | _ => .bad)
  | _ => .bad
  ) := rfl
/-! ### lists that change: one's own in slot i -/
def eAppend (i : Nat) (a : EV) : EV := fun r => match at_ r i with
  | .own _ _ => (a r).bind fun y r1 => (match y, at_ r1 i with
    | .d v, .own b l => if Fit1 l.length then .ok (.d .non) (r1.set i (.own b (l ++ [v]))) else .bad
    | _, _ => .bad)
  | _ => .bad
@[simp] theorem eAppend_app (i : Nat) (a : EV) (r : Slots) : eAppend i a r = (match at_ r i with
  | .own _ _ => (a r).bind fun y r1 => (match y, at_ r1 i with
    | .d v, .own b l => if Fit1 l.length then .ok (.d .non) (r1.set i (.own b (l ++ [v]))) else .bad
    | _, _ => .bad)
  | _ => .bad
  ) := rfl
def ePop (i : Nat) : EV := fun r => match at_ r i with
  | .own b l => (match l.getLast? with
    | some v => .ok (.d v) (r.set i (.own b l.dropLast))
    | none => .bad)
  | _ => .bad
@[simp] theorem ePop_app (i : Nat) (r : Slots) : ePop i r = (match at_ r i with
  | .own b l => (match l.getLast? with
    | some v => .ok (.d v) (r.set i (.own b l.dropLast))
    | none => .bad)
  | _ => .bad
  ) := rfl
/-- xs.pop(0) -/
def ePop0 (i : Nat) : EV := fun r => match at_ r i with
  | .own b (v :: l) => .ok (.d v) (r.set i (.own b l))
  | _ => .bad
@[simp] theorem ePop0_app (i : Nat) (r : Slots) : ePop0 i r = (match at_ r i with
  | .own b (v :: l) => .ok (.d v) (r.set i (.own b l))
  | _ => .bad
  ) := rfl
def eClear (i : Nat) : EV := fun r => match at_ r i with
  | .own b _ => .ok (.d .non) (r.set i (.own b []))
  | _ => .bad
@[simp] theorem eClear_app (i : Nat) (r : Slots) : eClear i r = (match at_ r i with
  | .own b _ => .ok (.d .non) (r.set i (.own b []))
  | _ => .bad
  ) := rfl
/-! ### a list that an instance owns: self.f, self in slot i -/
@[simp] def fldL (c : String) (i : Nat) (f : String) (r : Slots) : Option (List D) := match at_ r i with
  | .ins _ c' fs => if c = c' then (match lookF fs f with
    | some (.own l) => some l
    | _ => none) else none
  | _ => none
@[simp] def setFL (i : Nat) (f : String) (l : List D) (r : Slots) : Slots := match at_ r i with
  | .ins b c fs => r.set i (.ins b c (putFl f (.own l) fs))
  | _ => r
def eFOp (c : String) (i : Nat) (f : String) (op : Op1) : EV := fun r => match fldL c i f r with
  | some l => ofOpt (op (.lst l)) r
  | none => .bad
@[simp] theorem eFOp_app (c : String) (i : Nat) (f : String) (op : Op1) (r : Slots) : eFOp c i f op r = (match fldL c i f r with
  | some l => ofOpt (op (.lst l)) r
  | none => .bad
  ) := rfl
@[simp] def opNil : Op1
  | .lst l => some (.bl l.isEmpty)
  | _ => none
/-- self.f == [] -/
abbrev eFNil (c : String) (i : Nat) (f : String) : EV := eFOp c i f opNil
/-- len(self.f) -/
abbrev eFLen (c : String) (i : Nat) (f : String) : EV := eFOp c i f opLen
/-- tuple(self.f) -/
abbrev eFTup (c : String) (i : Nat) (f : String) : EV := eFOp c i f opTuple
/-- self.f[:e] -/
def eFCut (c : String) (i : Nat) (f : String) (a : EV) : EV := fun r => match fldL c i f r with
  | some l => (a r).bind fun x r1 => (match x with
    | .d (.int h) => .ok (.d (.lst (cut l none (some h)))) r1
    | _ => .bad)
  | none => .bad
@[simp] theorem eFCut_app (c : String) (i : Nat) (f : String) (a : EV) (r : Slots) : eFCut c i f a r = (match fldL c i f r with
  | some l => (a r).bind fun x r1 => (match x with
    | .d (.int h) => .ok (.d (.lst (cut l none (some h)))) r1
    | _ => .bad)
  | none => .bad
  ) := rfl
def eFApp (c : String) (i : Nat) (f : String) (a : EV) : EV := fun r => match fldL c i f r with
  | some l => (a r).bind fun y r1 => (match y with
    | .d v => if Fit1 l.length then .ok (.d .non) (setFL i f (l ++ [v]) r1) else .bad
    | _ => .bad)
  | none => .bad
@[simp] theorem eFApp_app (c : String) (i : Nat) (f : String) (a : EV) (r : Slots) : eFApp c i f a r = (match fldL c i f r with
  | some l => (a r).bind fun y r1 => (match y with
    | .d v => if Fit1 l.length then .ok (.d .non) (setFL i f (l ++ [v]) r1) else .bad
    | _ => .bad)
  | none => .bad
  ) := rfl
def eFPop (c : String) (i : Nat) (f : String) : EV := fun r => match fldL c i f r with
  | some l => (match l.getLast? with
    | some v => .ok (.d v) (setFL i f l.dropLast r)
    | none => .bad)
  | none => .bad
@[simp] theorem eFPop_app (c : String) (i : Nat) (f : String) (r : Slots) : eFPop c i f r = (match fldL c i f r with
  | some l => (match l.getLast? with
    | some v => .ok (.d v) (setFL i f l.dropLast r)
    | none => .bad)
  | none => .bad
  ) := rfl
/-! ### what is walked -/
abbrev IV := Slots → Res (List D)
@[simp] def items : D → Option (List D)
  | .lst l => some l
  | .tup l => some l
  | _ => none
def iVal (a : EV) : IV := fun r => (a r).bind fun x r1 => match x with
  | .d x => (match items x with
    | some l => .ok l r1
    | none => .bad)
  | _ => .bad
@[simp] theorem iVal_app (a : EV) (r : Slots) : iVal a r = ((a r).bind fun x r1 => match x with
  | .d x => (match items x with
    | some l => .ok l r1
    | none => .bad)
  | _ => .bad
  ) := rfl
def upTo (lo : Int) (n : Nat) : List D := (List.range n).map fun (k : Nat) => .int (lo + (k : Int))
def okR (i : Int) : Prop := -(2 ^ 62) ≤ i ∧ i < 2 ^ 62
instance (i : Int) : Decidable (okR i) := Classical.propDecidable _
theorem okR_of {i : Int} (h : -1000000000000 ≤ i) (h2 : i ≤ 1000000000000) : okR i := ⟨by omega, by omega⟩
def iRng (a : EV) : IV := fun r => (a r).bind fun x r1 => match x with
  | .d (.int j) => if okR j then .ok (upTo 0 j.toNat) r1 else .bad
  | _ => .bad
@[simp] theorem iRng_app (a : EV) (r : Slots) : iRng a r = ((a r).bind fun x r1 => match x with
  | .d (.int j) => if okR j then .ok (upTo 0 j.toNat) r1 else .bad
  | _ => .bad
  ) := rfl
def iRng2 (a b : EV) : IV := fun r => (a r).bind fun x r1 => (b r1).bind fun y r2 => match x, y with
  | .d (.int i), .d (.int j) => if okR i ∧ okR j then .ok (upTo i (j - i).toNat) r2 else .bad
  | _, _ => .bad
@[simp] theorem iRng2_app (a b : EV) (r : Slots) : iRng2 a b r = ((a r).bind fun x r1 => (b r1).bind fun y r2 => match x, y with
  | .d (.int i), .d (.int j) => if okR i ∧ okR j then .ok (upTo i (j - i).toNat) r2 else .bad
  | _, _ => .bad
  ) := rfl
/-- [elt for slot i in items if test] -/
@[simp] def compL (i : Nat) (t e : EV) : List D → List D → Slots → Res (List D)
  | [], acc, r => .ok acc r
  | x :: xs, acc, r => match tst t (r.set i (.d x)) with
    | .ok true r1 => (match e r1 with
      | .ok (.d v) r2 => if Fit1 acc.length then compL i t e xs (acc ++ [v]) (r2.set i .un) else .bad
      | _ => .bad)
    | .ok false r1 => compL i t e xs acc (r1.set i .un)
    | _ => .bad
theorem comp_nx {i : Nat} {t e : EV} {xs : List D} (P : Nat → List D → Slots → Prop) {acc : List D} {r : Slots} (h0 : P 0 acc r) (hs : ∀ (k : Nat) (x : D) (acc : List D) (r : Slots), xs[k]? = some x → P k acc r → (∃ r1 v r2, tst t (r.set i (.d x)) = .ok true r1 ∧ e r1 = .ok (.d v) r2 ∧ Fit1 acc.length ∧ P (k + 1) (acc ++ [v]) (r2.set i .un)) ∨ ∃ r1, tst t (r.set i (.d x)) = .ok false r1 ∧ P (k + 1) acc (r1.set i .un)) : ∃ acc' r', compL i t e xs acc r = .ok acc' r' ∧ P xs.length acc' r' := by
  induction xs generalizing P acc r with
  | nil => exact ⟨acc, r, rfl, h0⟩
  | cons x xs ih =>
    rcases hs 0 x acc r rfl h0 with ⟨r1, v, r2, h1, h2, h3, h4⟩ | ⟨r1, h1, h4⟩
    · obtain ⟨acc', r', h5, h6⟩ := ih (fun k => P (k + 1)) h4 fun k y acc r q p => hs (k + 1) y acc r (by simpa using q) p
      refine ⟨acc', r', ?_, h6⟩
      unfold compL
      simp only [h1, h2, if_pos h3]
      exact h5
    · obtain ⟨acc', r', h5, h6⟩ := ih (fun k => P (k + 1)) h4 fun k y acc r q p => hs (k + 1) y acc r (by simpa using q) p
      refine ⟨acc', r', ?_, h6⟩
      unfold compL
      simp only [h1]
      exact h5
def plainA : A → Bool
  | .un => true
  | .d _ => true
  | _ => false
@[simp] theorem plainA_0 : plainA .un = true := rfl
@[simp] theorem plainA_1 (x : D) : plainA (.d x) = true := rfl
@[simp] theorem plainA_2 (b : Bool) (l : List D) : plainA (.own b l) = false := rfl
@[simp] theorem plainA_3 (b : Bool) (c : String) (fs : List (String × F)) : plainA (.ins b c fs) = false := rfl
@[simp] theorem plainA_4 (c : String) : plainA (.err c) = false := rfl
def eComp (i : Nat) (it : IV) (t e : EV) : EV := fun r => (it r).bind fun xs r1 => if plainA (at_ r1 i) ∧ i < r1.length then (match compL i t e xs [] (r1.set i .un) with
    | .ok l r2 => .ok (.d (.lst l)) (r2.set i (at_ r1 i))
    | _ => .bad) else .bad
@[simp] theorem eComp_app (i : Nat) (it : IV) (t e : EV) (r : Slots) : eComp i it t e r = ((it r).bind fun xs r1 => if plainA (at_ r1 i) ∧ i < r1.length then (match compL i t e xs [] (r1.set i .un) with
    | .ok l r2 => .ok (.d (.lst l)) (r2.set i (at_ r1 i))
    | _ => .bad) else .bad
  ) := rfl
@[simp] def eTrue : EV := eC (.bl true)

/-! ### statements -/
inductive Out where
  | nx (r : Slots) | rt (v : RV) (r : Slots) | bk (r : Slots) | ct (r : Slots) | ex (c : String) (r : Slots) | bad
abbrev SV := Slots → Out
def Res.out {α : Type} (x : Res α) (f : α → Slots → Out) : Out := match x with
  | .ok a r => f a r
  | .exc c r => .ex c r
  | .bad => .bad
@[simp] theorem Res.out_ok {α : Type} (a : α) (r : Slots) (f : α → Slots → Out) : (Res.ok a r).out f = f a r := rfl
@[simp] theorem Res.out_exc {α : Type} (c : String) (r : Slots) (f : α → Slots → Out) : (Res.exc c r : Res α).out f = .ex c r := rfl
@[simp] theorem Res.out_bad {α : Type} (f : α → Slots → Out) : (Res.bad : Res α).out f = .bad := rfl
def sNext : SV := fun r => .nx r
@[simp] theorem sNext_app (r : Slots) : sNext  r = (.nx r
  ) := rfl
def sBreak : SV := fun r => .bk r
@[simp] theorem sBreak_app (r : Slots) : sBreak  r = (.bk r
  ) := rfl
theorem Res.out_congr {α : Type} {x y : Res α} (h : x = y) (f : α → Slots → Out) : x.out f = y.out f := by rw [h]
def Out.seq (o : Out) (b : SV) : Out := match o with
  | .nx r1 => b r1
  | o => o
@[simp] theorem Out.seq_nx (r : Slots) (b : SV) : (Out.nx r).seq b = b r := rfl
@[simp] theorem Out.seq_rt (v : RV) (r : Slots) (b : SV) : (Out.rt v r).seq b = .rt v r := rfl
@[simp] theorem Out.seq_bk (r : Slots) (b : SV) : (Out.bk r).seq b = .bk r := rfl
@[simp] theorem Out.seq_ct (r : Slots) (b : SV) : (Out.ct r).seq b = .ct r := rfl
@[simp] theorem Out.seq_ex (c : String) (r : Slots) (b : SV) : (Out.ex c r).seq b = .ex c r := rfl
@[simp] theorem Out.seq_bad (b : SV) : Out.bad.seq b = .bad := rfl
theorem Out.seq_congr {x y : Out} (h : x = y) (f : SV) : x.seq f = y.seq f := by rw [h]
def sSeq (a b : SV) : SV := fun r => (a r).seq b
@[simp] theorem sSeq_app (a b : SV) (r : Slots) : sSeq a b r = ((a r).seq b
  ) := rfl
/-- a slot that may be stored to: nothing lent stands there -/
def freeA : A → Bool
  | .un => true
  | .d _ => true
  | .own b _ => !b
  | .ins b _ _ => !b
  | .err _ => false
@[simp] theorem freeA_0 : freeA .un = true := rfl
@[simp] theorem freeA_1 (x : D) : freeA (.d x) = true := rfl
@[simp] theorem freeA_2 (b : Bool) (l : List D) : freeA (.own b l) = !b := rfl
@[simp] theorem freeA_3 (b : Bool) (c : String) (fs : List (String × F)) : freeA (.ins b c fs) = !b := rfl
@[simp] theorem freeA_4 (c : String) : freeA (.err c) = false := rfl
@[simp] def store (i : Nat) (a : A) (r : Slots) : Out := if freeA (at_ r i) ∧ i < r.length then .nx (r.set i a) else .bad
def sSet (i : Nat) (a : EV) : SV := fun r => (a r).out fun x r1 => match x with
  | .d v => store i (.d v) r1
  | _ => .bad
@[simp] theorem sSet_app (i : Nat) (a : EV) (r : Slots) : sSet i a r = ((a r).out fun x r1 => match x with
  | .d v => store i (.d v) r1
  | _ => .bad
  ) := rfl
/-- a new list, kept to be changed -/
def sOwn (i : Nat) (a : EV) : SV := fun r => (a r).out fun x r1 => match x with
  | .d (.lst l) => store i (.own false l) r1
  | _ => .bad
@[simp] theorem sOwn_app (i : Nat) (a : EV) (r : Slots) : sOwn i a r = ((a r).out fun x r1 => match x with
  | .d (.lst l) => store i (.own false l) r1
  | _ => .bad
  ) := rfl
def sNew (i : Nat) (c : String) (init : FSem) (a : AV) : SV := fun r => (a r).out fun xs r1 => (newV c init xs r1).out fun fs r2 => store i (.ins false c fs) r2
@[simp] theorem sNew_app (i : Nat) (c : String) (init : FSem) (a : AV) (r : Slots) : sNew i c init a r = ((a r).out fun xs r1 => (newV c init xs r1).out fun fs r2 => store i (.ins false c fs) r2
  ) := rfl
/-- a def's own list, handed on -/
def sCallOwn (i : Nat) (f : FSem) (a : AV) : SV := fun r => (a r).out fun xs r1 => (callV f xs r1).out fun v r2 => match v with
  | .own l => store i (.own false l) r2
  | _ => .bad
@[simp] theorem sCallOwn_app (i : Nat) (f : FSem) (a : AV) (r : Slots) : sCallOwn i f a r = ((a r).out fun xs r1 => (callV f xs r1).out fun v r2 => match v with
  | .own l => store i (.own false l) r2
  | _ => .bad
  ) := rfl
def sIf (t : EV) (a b : SV) : SV := fun r => (tst t r).out fun c r1 => if c then a r1 else b r1
@[simp] theorem sIf_app (t : EV) (a b : SV) (r : Slots) : sIf t a b r = ((tst t r).out fun c r1 => if c then a r1 else b r1
  ) := rfl
def sExpr (a : EV) : SV := fun r => (a r).out fun _ r1 => .nx r1
@[simp] theorem sExpr_app (a : EV) (r : Slots) : sExpr a r = ((a r).out fun _ r1 => .nx r1
  ) := rfl
def sRet (a : EV) : SV := fun r => (a r).out fun x r1 => match x with
  | .d v => .rt (.d v) r1
  | .ref i => (match at_ r1 i with
    | .own false l => .rt (.own l) (r1.set i .un)
    | _ => .bad)
@[simp] theorem sRet_app (a : EV) (r : Slots) : sRet a r = ((a r).out fun x r1 => match x with
  | .d v => .rt (.d v) r1
  | .ref i => (match at_ r1 i with
    | .own false l => .rt (.own l) (r1.set i .un)
    | _ => .bad)
  ) := rfl
/-- a new list, handed on to be changed -/
def sRetL (a : EV) : SV := fun r => (a r).out fun x r1 => match x with
  | .d (.lst l) => .rt (.own l) r1
  | _ => .bad
@[simp] theorem sRetL_app (a : EV) (r : Slots) : sRetL a r = ((a r).out fun x r1 => match x with
  | .d (.lst l) => .rt (.own l) r1
  | _ => .bad
  ) := rfl
def sRetN : SV := fun r => .rt (.d .non) r
@[simp] theorem sRetN_app (r : Slots) : sRetN  r = (.rt (.d .non) r
  ) := rfl
def sFld (c : String) (i : Nat) (f : String) (a : EV) : SV := fun r => (a r).out fun x r1 => match x, at_ r1 i with
  | .d v, .ins b c' fs => if c = c' ∧ Few fs.length then .nx (r1.set i (.ins b c' (putFl f (.d v) fs))) else .bad
  | _, _ => .bad
@[simp] theorem sFld_app (c : String) (i : Nat) (f : String) (a : EV) (r : Slots) : sFld c i f a r = ((a r).out fun x r1 => match x, at_ r1 i with
  | .d v, .ins b c' fs => if c = c' ∧ Few fs.length then .nx (r1.set i (.ins b c' (putFl f (.d v) fs))) else .bad
  | _, _ => .bad
  ) := rfl
def sFldOwn (c : String) (i : Nat) (f : String) (a : EV) : SV := fun r => (a r).out fun x r1 => match x, at_ r1 i with
  | .d (.lst l), .ins b c' fs => if c = c' ∧ Few fs.length then .nx (r1.set i (.ins b c' (putFl f (.own l) fs))) else .bad
  | _, _ => .bad
@[simp] theorem sFldOwn_app (c : String) (i : Nat) (f : String) (a : EV) (r : Slots) : sFldOwn c i f a r = ((a r).out fun x r1 => match x, at_ r1 i with
  | .d (.lst l), .ins b c' fs => if c = c' ∧ Few fs.length then .nx (r1.set i (.ins b c' (putFl f (.own l) fs))) else .bad
  | _, _ => .bad
  ) := rfl
/-- o[k] = v, o one's own list in slot i -/
def sItem (i : Nat) (k a : EV) : SV := fun r => (a r).out fun y r1 => match at_ r1 i with
  | .own _ _ => (k r1).out fun z r2 => (match y, z, at_ r2 i with
    | .d v, .d (.int j), .own b l => (match ixK l.length j with
      | some n => .nx (r2.set i (.own b (l.set n v)))
      | none => .bad)
    | _, _, _ => .bad)
  | _ => .bad
@[simp] theorem sItem_app (i : Nat) (k a : EV) (r : Slots) : sItem i k a r = ((a r).out fun y r1 => match at_ r1 i with
  | .own _ _ => (k r1).out fun z r2 => (match y, z, at_ r2 i with
    | .d v, .d (.int j), .own b l => (match ixK l.length j with
      | some n => .nx (r2.set i (.own b (l.set n v)))
      | none => .bad)
    | _, _, _ => .bad)
  | _ => .bad
  ) := rfl
/-- self.f[k] = v -/
def sFItem (c : String) (i : Nat) (f : String) (k a : EV) : SV := fun r => (a r).out fun y r1 => match fldL c i f r1 with
  | some l => (k r1).out fun z r2 => (match y, z with
    | .d v, .d (.int j) => (match ixK l.length j with
      | some n => .nx (setFL i f (l.set n v) r2)
      | none => .bad)
    | _, _ => .bad)
  | none => .bad
@[simp] theorem sFItem_app (c : String) (i : Nat) (f : String) (k a : EV) (r : Slots) : sFItem c i f k a r = ((a r).out fun y r1 => match fldL c i f r1 with
  | some l => (k r1).out fun z r2 => (match y, z with
    | .d v, .d (.int j) => (match ixK l.length j with
      | some n => .nx (setFL i f (l.set n v) r2)
      | none => .bad)
    | _, _ => .bad)
  | none => .bad
  ) := rfl
/-- a, b = e -/
def sPair (i j : Nat) (a : EV) : SV := fun r => (a r).out fun x r1 => match x with
  | .d (.tup [u, v]) => (match store i (.d u) r1 with
    | .nx r2 => store j (.d v) r2
    | _ => .bad)
  | _ => .bad
@[simp] theorem sPair_app (i j : Nat) (a : EV) (r : Slots) : sPair i j a r = ((a r).out fun x r1 => match x with
  | .d (.tup [u, v]) => (match store i (.d u) r1 with
    | .nx r2 => store j (.d v) r2
    | _ => .bad)
  | _ => .bad
  ) := rfl
def sRaise (c : String) : SV := fun r => .ex c r
@[simp] theorem sRaise_app (c : String) (r : Slots) : sRaise c r = (.ex c r
  ) := rfl
@[simp] def forL (i : Nat) (b : SV) : List D → Slots → Out
  | [], r => .nx r
  | x :: xs, r => match store i (.d x) r with
    | .nx r0 => (match b r0 with
      | .nx r1 => forL i b xs r1
      | .ct r1 => forL i b xs r1
      | .bk r1 => .nx r1
      | o => o)
    | _ => .bad
theorem for_nx {i : Nat} {b : SV} {xs : List D} (P : Nat → Slots → Prop) {r : Slots} (h0 : P 0 r) (hs : ∀ (k : Nat) (x : D) (r : Slots), xs[k]? = some x → P k r → freeA (at_ r i) = true ∧ i < r.length ∧ ∃ r', b (r.set i (.d x)) = .nx r' ∧ P (k + 1) r') : ∃ r', forL i b xs r = .nx r' ∧ P xs.length r' := by
  induction xs generalizing P r with
  | nil => exact ⟨r, rfl, h0⟩
  | cons x xs ih =>
    obtain ⟨h1, h2, r', h3, h4⟩ := hs 0 x r rfl h0
    obtain ⟨r2, h5, h6⟩ := ih (fun k r => P (k + 1) r) h4 fun k y r q p => hs (k + 1) y r (by simpa using q) p
    refine ⟨r2, ?_, h6⟩
    unfold forL store
    rw [if_pos ⟨h1, h2⟩]
    simp only [h3]
    exact h5
def sFor (i : Nat) (it : IV) (b : SV) : SV := fun r => (it r).out fun xs r1 => forL i b xs r1
@[simp] theorem sFor_app (i : Nat) (it : IV) (b : SV) (r : Slots) : sFor i it b r = ((it r).out fun xs r1 => forL i b xs r1
  ) := rfl
def whileN (t : EV) (b : SV) : Nat → Slots → Out
  | 0, _ => .bad
  | n + 1, r => (tst t r).out fun c r1 => if c then (match b r1 with
      | .nx r2 => whileN t b n r2
      | .ct r2 => whileN t b n r2
      | .bk r2 => .nx r2
      | o => o) else .nx r1
open Classical in
def sWhile (t : EV) (b : SV) : SV := fun r => if h : ∃ n, whileN t b n r ≠ .bad then whileN t b h.choose r else .bad
theorem whileN_succ (t : EV) (b : SV) : ∀ (n : Nat) (r : Slots), whileN t b n r ≠ .bad → whileN t b (n + 1) r = whileN t b n r
  | 0, r, h => absurd rfl h
  | n + 1, r, h => by
    unfold whileN at h ⊢
    cases hr : tst t r with
    | bad => rw [hr] at h; exact absurd rfl h
    | exc c r1 => rfl
    | ok c r1 =>
      rw [hr] at h
      cases c with
      | false => rfl
      | true =>
        simp only [Res.out_ok, if_true] at h ⊢
        cases hb : b r1 with
        | nx r2 => rw [hb] at h; exact whileN_succ t b n r2 h
        | ct r2 => rw [hb] at h; exact whileN_succ t b n r2 h
        | bk r2 => rfl
        | rt v r2 => rfl
        | ex c r2 => rfl
        | bad => rfl
theorem whileN_add (t : EV) (b : SV) (n : Nat) (r : Slots) (h : whileN t b n r ≠ .bad) : ∀ k, whileN t b (n + k) r = whileN t b n r
  | 0 => rfl
  | k + 1 => by
    have ih := whileN_add t b n r h k
    rw [← ih]
    exact whileN_succ t b (n + k) r (by rw [ih]; exact h)
theorem sWhile_eq {t : EV} {b : SV} {r : Slots} {o : Out} (n : Nat) (h : whileN t b n r = o) (ho : o ≠ .bad) : sWhile t b r = o := by
  have hn : whileN t b n r ≠ .bad := by rw [h]; exact ho
  have ex : ∃ n, whileN t b n r ≠ .bad := ⟨n, hn⟩
  unfold sWhile
  rw [dif_pos ex]
  have hc := ex.choose_spec
  have e1 := whileN_add t b _ r hc n
  have e2 := whileN_add t b n r hn ex.choose
  rw [Nat.add_comm] at e2
  rw [← e1, e2, h]
/-- no caught error stands here -/
def noErr : A → Bool
  | .err _ => false
  | _ => true
@[simp] theorem noErr_0 : noErr .un = true := rfl
@[simp] theorem noErr_1 (x : D) : noErr (.d x) = true := rfl
@[simp] theorem noErr_2 (b : Bool) (l : List D) : noErr (.own b l) = true := rfl
@[simp] theorem noErr_3 (b : Bool) (c : String) (fs : List (String × F)) : noErr (.ins b c fs) = true := rfl
@[simp] theorem noErr_4 (c : String) : noErr (.err c) = false := rfl
/-- behind a suite: the error's name is gone -/
def offErr (k : Nat) (o : Out) : Out := match o with
  | .nx r2 => if (r2.set k .un).all noErr then .nx (r2.set k .un) else .bad
  | .rt v r2 => if (r2.set k .un).all noErr then .rt v (r2.set k .un) else .bad
  | _ => .bad
@[simp] theorem offErr_nx (k : Nat) (r : Slots) : offErr k (.nx r) = if (r.set k .un).all noErr then .nx (r.set k .un) else .bad := rfl
@[simp] theorem offErr_rt (k : Nat) (v : RV) (r : Slots) : offErr k (.rt v r) = if (r.set k .un).all noErr then .rt v (r.set k .un) else .bad := rfl
/-- try: body, except C as slot i: suite; tb: of which classes it is known whether they are caught -/
def tryK (tb : List (String × Bool)) (i : Nat) (s : SV) (o : Out) : Out := match o with
  | .ex c r1 => (match tb.lookup c with
    | some true => if freeA (at_ r1 i) = true ∧ i < r1.length then offErr i (s (r1.set i (.err c))) else .bad
    | some false => .ex c r1
    | none => .bad)
  | o => o
@[simp] theorem tryK_nx (tb : List (String × Bool)) (i : Nat) (s : SV) (r : Slots) : tryK tb i s (.nx r) = .nx r := rfl
@[simp] theorem tryK_rt (tb : List (String × Bool)) (i : Nat) (s : SV) (v : RV) (r : Slots) : tryK tb i s (.rt v r) = .rt v r := rfl
@[simp] theorem tryK_ex (tb : List (String × Bool)) (i : Nat) (s : SV) (c : String) (r1 : Slots) : tryK tb i s (.ex c r1) = match tb.lookup c with
    | some true => if freeA (at_ r1 i) = true ∧ i < r1.length then offErr i (s (r1.set i (.err c))) else .bad
    | some false => .ex c r1
    | none => .bad := rfl
def sTry (tb : List (String × Bool)) (i : Nat) (b : SV) (s : SV) : SV := fun r => tryK tb i s (b r)
@[simp] theorem sTry_app (tb : List (String × Bool)) (i : Nat) (b : SV) (s : SV) (r : Slots) : sTry tb i b s r = (tryK tb i s (b r)
  ) := rfl
/-- a suite lets nothing out -/
def noEx (o : Out) : Out := match o with
  | .ex _ _ => .bad
  | o => o
@[simp] theorem noEx_nx (r : Slots) : noEx (.nx r) = .nx r := rfl
@[simp] theorem noEx_rt (v : RV) (r : Slots) : noEx (.rt v r) = .rt v r := rfl
/-- .. without a name -/
def tryO (tb : List (String × Bool)) (s : SV) (o : Out) : Out := match o with
  | .ex c r1 => (match tb.lookup c with
    | some true => noEx (s r1)
    | some false => .ex c r1
    | none => .bad)
  | o => o
@[simp] theorem tryO_nx (tb : List (String × Bool)) (s : SV) (r : Slots) : tryO tb s (.nx r) = .nx r := rfl
@[simp] theorem tryO_rt (tb : List (String × Bool)) (s : SV) (v : RV) (r : Slots) : tryO tb s (.rt v r) = .rt v r := rfl
@[simp] theorem tryO_ex (tb : List (String × Bool)) (s : SV) (c : String) (r1 : Slots) : tryO tb s (.ex c r1) = match tb.lookup c with
    | some true => noEx (s r1)
    | some false => .ex c r1
    | none => .bad := rfl
def sTryO (tb : List (String × Bool)) (b : SV) (s : SV) : SV := fun r => tryO tb s (b r)
@[simp] theorem sTryO_app (tb : List (String × Bool)) (b : SV) (s : SV) (r : Slots) : sTryO tb b s r = (tryO tb s (b r)
  ) := rfl
/-- isinstance(e, C) for a caught error in slot i -/
def eIsE (tb : List (String × Bool)) (i : Nat) : EV := fun r => match at_ r i with
  | .err c => (match tb.lookup c with
    | some b => .ok (.d (.bl b)) r
    | none => .bad)
  | _ => .bad
@[simp] theorem eIsE_app (tb : List (String × Bool)) (i : Nat) (r : Slots) : eIsE tb i r = (match at_ r i with
  | .err c => (match tb.lookup c with
    | some b => .ok (.d (.bl b)) r
    | none => .bad)
  | _ => .bad
  ) := rfl
/-! ### a def -/
def lentA : A → Bool
  | .d _ => true
  | .own b _ => b
  | .ins b _ _ => b
  | _ => false
@[simp] theorem lentA_0 : lentA .un = false := rfl
@[simp] theorem lentA_1 (x : D) : lentA (.d x) = true := rfl
@[simp] theorem lentA_2 (b : Bool) (l : List D) : lentA (.own b l) = b := rfl
@[simp] theorem lentA_3 (b : Bool) (c : String) (fs : List (String × F)) : lentA (.ins b c fs) = b := rfl
@[simp] theorem lentA_4 (c : String) : lentA (.err c) = false := rfl
/-- what stands in a parameter's slot at the end -/
@[simp] def outA : A → A
  | .own false _ => .un
  | .ins false _ _ => .un
  | .err _ => .un
  | a => a
@[simp] def runF (np ns : Nat) (b : SV) : FSem := fun as => if as.length = np ∧ as.all lentA then (match b (as ++ List.replicate (ns - np) .un) with
    | .nx r => .ok (.d .non) ((r.take np).map outA)
    | .rt v r => .ok v ((r.take np).map outA)
    | .ex c _ => .exc c
    | _ => .bad) else .bad
/-! ### a program: its defs by number; S the level below, S' the one below that -/
structure Code where
  np : Nat
  ns : Nat
  sv : SV
abbrev Codes := (Nat → FSem) → (Nat → FSem) → List Code
def semP (cs : Codes) : Nat → (Nat → FSem) × (Nat → FSem)
  | 0 => (fun _ _ => .bad, fun _ _ => .bad)
  | n + 1 => (fun i => match (cs (semP cs n).1 (semP cs n).2)[i]? with
    | some c => runF c.np c.ns c.sv
    | none => fun _ => .bad, (semP cs n).1)
def sem (cs : Codes) (n i : Nat) : FSem := (semP cs n).1 i
def sem' (cs : Codes) (n i : Nat) : FSem := (semP cs n).2 i
theorem sem_succ {cs : Codes} {n i : Nat} {c : Code} (h : (cs (sem cs n) (sem' cs n))[i]? = some c) : sem cs (n + 1) i = runF c.np c.ns c.sv := by
  show (match (cs (semP cs n).1 (semP cs n).2)[i]? with
    | some c => runF c.np c.ns c.sv
    | none => fun _ => .bad) = _
  rw [show (cs (semP cs n).1 (semP cs n).2)[i]? = some c from h]
theorem sem'_succ {cs : Codes} {n i : Nat} : sem' cs (n + 1) i = sem cs n i := rfl
end
end Sk

namespace SkS
open PySem PySem.Spec PyProof.Rows L2 Sk

/-! ### names as texts -/
theorem str_inj {a b : String} (h : Str.ofString a = Str.ofString b) : a = b := by
  rw [Str.ofString_eq_toList, Str.ofString_eq_toList] at h
  have h1 := congrArg (fun s : Str => s.cps.toList) h
  have h2 : a.toList.map Char.toNat = b.toList.map Char.toNat := h1
  have inj : ∀ l m : List Char, l.map Char.toNat = m.map Char.toNat → l = m := by
    intro l
    induction l with
    | nil => intro m q; cases m with
      | nil => rfl
      | cons => cases q
    | cons x r ih => intro m q; cases m with
      | nil => cases q
      | cons y t =>
        rw [List.map_cons, List.map_cons] at q
        obtain ⟨q1, q2⟩ := List.cons.inj q
        rw [ih t q2]
        have : x = y := Char.ext (UInt32.toNat_inj.mp q1)
        rw [this]
  exact String.toList_inj.mp (inj _ _ h2)

/-- who owns an address -/
inductive Tok where
  | s (i : Nat) | f (i : Nat) (f : String) | tmp | oth
abbrev Own := Addr → Option Tok
/-- the program's classes by name -/
structure Tab where
  cls : String → Option Addr
  exc : String → Option Addr
/-- a list that stands still -/
def SqK (K : PySem.W.Frag) (a : Addr) (xs : List V) : Prop :=
  ∃ (o : Obj) (its : Array Value) (n : Nat), K.lookup a = some o ∧ o.cls = .type "list" ∧ o.dict = none ∧ o.data = .seq its n ∧ its.size ≤ sizeLine ∧ Vals xs its.toList
def LstR (K : PySem.W.Frag) (H : Hp) (W : Own) (a : Addr) (xs : List V) : Prop := (Rd H a (.lst xs) ∧ W a = none) ∨ SqK K a xs
theorem LstR.sql {K : PySem.W.Frag} {H : Hp} {W : Own} {a : Addr} {xs : List V} (h : LstR K H W a xs) : SqL K H a xs := by
  rcases h with ⟨h, _⟩ | h
  · exact .inl h
  · exact .inr h
mutual
inductive Rp (K : PySem.W.Frag) (T : Tab) (H : Hp) (W : Own) : V → Sk.D → Prop
  | non : Rp K T H W .non .non
  | bl (b : Bool) : Rp K T H W (.bl b) (.bl b)
  | int (i : Int) : Rp K T H W (.int i) (.int i)
  | str (s : Txt) : s.length ≤ sizeLine → Rp K T H W (.str ⟨s.toArray⟩) (.str s)
  | tup {a : Addr} {xs : List V} {ds : List Sk.D} : SqT K H a xs → Rps K T H W xs ds → Rp K T H W (.ref a) (.tup ds)
  | lst {a : Addr} {xs : List V} {ds : List Sk.D} : H a = some (.lst xs) → W a = none → Rps K T H W xs ds → Rp K T H W (.ref a) (.lst ds)
  | scr {a : Addr} {ns : List Int} : LstR K H W a (ns.map V.int) → Rp K T H W (.ref a) (.scr ns)
  | dic {a : Addr} {kvs : List (Txt × Txt)} : H a = some (.dK (kvs.map fun p => (.inr ⟨p.1.toArray⟩, .str ⟨p.2.toArray⟩))) → W a = none → (∀ p ∈ kvs, p.2.length ≤ sizeLine) → Rp K T H W (.ref a) (.dic (kvs.map fun p => (p.1, .str p.2)))
  | obj {a C dx : Addr} {c : String} {vs : List (Str × V)} {ds : List (String × Sk.D)} : T.cls c = some C → H a = some (.ins C dx vs) → W a = none → Rpf K T H W vs ds → Rp K T H W (.ref a) (.obj c ds)
inductive Rps (K : PySem.W.Frag) (T : Tab) (H : Hp) (W : Own) : List V → List Sk.D → Prop
  | nil : Rps K T H W [] []
  | cons {v : V} {vs : List V} {d : Sk.D} {ds : List Sk.D} : Rp K T H W v d → Rps K T H W vs ds → Rps K T H W (v :: vs) (d :: ds)
inductive Rpf (K : PySem.W.Frag) (T : Tab) (H : Hp) (W : Own) : List (Str × V) → List (String × Sk.D) → Prop
  | nil : Rpf K T H W [] []
  | cons {v : V} {vs : List (Str × V)} {n : String} {d : Sk.D} {ds : List (String × Sk.D)} : Rp K T H W v d → Rpf K T H W vs ds → Rpf K T H W ((Str.ofString n, v) :: vs) ((n, d) :: ds)
end
/-- what an expression's run keeps -/
structure Fr (H : Hp) (W : Own) (H' : Hp) (W' : Own) : Prop where
  keep : ∀ a o, H a = some o → (W a = none ∨ W a = some .tmp ∨ W a = some .oth) → H' a = some o ∧ W' a = W a
  there : ∀ a, H a ≠ none → H' a ≠ none
  tup : ∀ a xs, H a = some (.tup xs) → H' a = some (.tup xs)
  frz : ∀ a o xs, H a = some (.frz o (.tup xs)) → H' a = some (.frz o (.tup xs))
theorem Fr.refl {H : Hp} {W : Own} : Fr H W H W := ⟨fun _ _ h _ => ⟨h, rfl⟩, fun _ h => h, fun _ _ h => h, fun _ _ _ h => h⟩
theorem Fr.trans {H H1 H2 : Hp} {W W1 W2 : Own} (a : Fr H W H1 W1) (b : Fr H1 W1 H2 W2) : Fr H W H2 W2 := by
  refine ⟨fun x o h w => ?_, fun x h => b.there x (a.there x h), fun x xs h => b.tup x xs (a.tup x xs h), fun x o xs h => b.frz x o xs (a.frz x o xs h)⟩
  obtain ⟨h1, w1⟩ := a.keep x o h w
  obtain ⟨h2, w2⟩ := b.keep x o h1 (by rw [w1]; exact w)
  exact ⟨h2, w2.trans w1⟩
section
variable {K : PySem.W.Frag} {T : Tab} {H H' H'' : Hp} {W W' W'' : Own}
theorem LstR.mono (m : ∀ a o, H a = some o → W a = none → H' a = some o ∧ W' a = none) {a : Addr} {xs : List V} (h : LstR K H W a xs) : LstR K H' W' a xs := by
  rcases h with ⟨h | ⟨o, h⟩, w⟩ | h
  · exact .inl ⟨.inl (m a _ h w).1, (m a _ h w).2⟩
  · exact .inl ⟨.inr ⟨o, (m a _ h w).1⟩, (m a _ h w).2⟩
  · exact .inr h
theorem SqT.mono2 (t : ∀ a xs, H a = some (.tup xs) → H' a = some (.tup xs)) (t2 : ∀ a o xs, H a = some (.frz o (.tup xs)) → H' a = some (.frz o (.tup xs))) {a : Addr} {xs : List V} (h : SqT K H a xs) : SqT K H' a xs := by
  rcases h with (h | ⟨o, h⟩) | h
  · exact .inl (.inl (t a _ h))
  · exact .inl (.inr ⟨o, t2 a o _ h⟩)
  · exact .inr h
/-- how a reading of data moves to another heap -/
structure Mv (H : Hp) (W : Own) (H' : Hp) (W' : Own) : Prop where
  free : ∀ a o, H a = some o → W a = none → H' a = some o ∧ W' a = none
  tup : ∀ a xs, H a = some (.tup xs) → H' a = some (.tup xs)
  frz : ∀ a o xs, H a = some (.frz o (.tup xs)) → H' a = some (.frz o (.tup xs))
theorem Fr.mv (f : Fr H W H' W') : Mv H W H' W' := ⟨fun a o h w => ⟨(f.keep a o h (.inl w)).1, (f.keep a o h (.inl w)).2.trans w⟩, f.tup, f.frz⟩
mutual
theorem Rp.mv (m : Mv H W H' W') : ∀ {v : V} {d : Sk.D}, Rp K T H W v d → Rp K T H' W' v d
  | _, _, .non => .non
  | _, _, .bl b => .bl b
  | _, _, .int i => .int i
  | _, _, .str s h => .str s h
  | _, _, .tup h r => .tup (SqT.mono2 m.tup m.frz h) (Rps.mv m r)
  | _, _, .lst h w r => .lst (m.free _ _ h w).1 (m.free _ _ h w).2 (Rps.mv m r)
  | _, _, .scr h => .scr (h.mono m.free)
  | _, _, .dic h w z => .dic (m.free _ _ h w).1 (m.free _ _ h w).2 z
  | _, _, .obj c h w r => .obj c (m.free _ _ h w).1 (m.free _ _ h w).2 (Rpf.mv m r)
theorem Rps.mv (m : Mv H W H' W') : ∀ {v : List V} {d : List Sk.D}, Rps K T H W v d → Rps K T H' W' v d
  | _, _, .nil => .nil
  | _, _, .cons a b => .cons (Rp.mv m a) (Rps.mv m b)
theorem Rpf.mv (m : Mv H W H' W') : ∀ {v : List (Str × V)} {d : List (String × Sk.D)}, Rpf K T H W v d → Rpf K T H' W' v d
  | _, _, .nil => .nil
  | _, _, .cons a b => .cons (Rp.mv m a) (Rpf.mv m b)
end
theorem Rps.len : ∀ {v : List V} {d : List Sk.D}, Rps K T H W v d → v.length = d.length
  | _, _, .nil => rfl
  | _, _, .cons _ b => congrArg Nat.succ (Rps.len b)
theorem Rps.get : ∀ {vs : List V} {ds : List Sk.D} {i : Nat} {d : Sk.D}, Rps K T H W vs ds → ds[i]? = some d → ∃ v, vs[i]? = some v ∧ Rp K T H W v d
  | _, _, _, _, .nil, e => by simp at e
  | _, _, 0, _, .cons a _, e => by simp at e; subst e; exact ⟨_, rfl, a⟩
  | _, _, i + 1, d, .cons _ b, e => by
    obtain ⟨v, h1, h2⟩ := Rps.get (i := i) (d := d) b (by simpa using e)
    exact ⟨v, by simpa using h1, h2⟩
theorem Rps.getV : ∀ {vs : List V} {ds : List Sk.D} {i : Nat} {v : V}, Rps K T H W vs ds → vs[i]? = some v → ∃ d, ds[i]? = some d ∧ Rp K T H W v d
  | _, _, _, _, .nil, e => by simp at e
  | _, _, 0, _, .cons a _, e => by simp at e; subst e; exact ⟨_, rfl, a⟩
  | _, _, i + 1, v, .cons _ b, e => by
    obtain ⟨d, h1, h2⟩ := Rps.getV (i := i) (v := v) b (by simpa using e)
    exact ⟨d, by simpa using h1, h2⟩
theorem Rps.app : ∀ {vs ws : List V} {ds es : List Sk.D}, Rps K T H W vs ds → Rps K T H W ws es → Rps K T H W (vs ++ ws) (ds ++ es)
  | _, _, _, _, .nil, s => s
  | _, _, _, _, .cons a b, s => .cons a (Rps.app b s)
theorem Rps.take : ∀ {vs : List V} {ds : List Sk.D} (n : Nat), Rps K T H W vs ds → Rps K T H W (vs.take n) (ds.take n)
  | _, _, 0, _ => .nil
  | _, _, _ + 1, .nil => .nil
  | _, _, n + 1, .cons a b => .cons a (Rps.take n b)
theorem Rps.drop : ∀ {vs : List V} {ds : List Sk.D} (n : Nat), Rps K T H W vs ds → Rps K T H W (vs.drop n) (ds.drop n)
  | _, _, 0, r => r
  | _, _, _ + 1, .nil => .nil
  | _, _, n + 1, .cons _ b => Rps.drop n b
theorem Rps.set : ∀ {vs : List V} {ds : List Sk.D} (n : Nat) {v : V} {d : Sk.D}, Rps K T H W vs ds → Rp K T H W v d → Rps K T H W (vs.set n v) (ds.set n d)
  | _, _, _, _, _, .nil, _ => .nil
  | _, _, 0, _, _, .cons _ b, r => .cons r b
  | _, _, n + 1, _, _, .cons a b, r => .cons a (Rps.set n b r)
theorem Rps.rev {vs : List V} {ds : List Sk.D} (h : Rps K T H W vs ds) : Rps K T H W vs.reverse ds.reverse := by
  induction vs generalizing ds with
  | nil => cases h; exact .nil
  | cons v r ih =>
    cases h with
    | cons a b =>
      rw [List.reverse_cons, List.reverse_cons]
      exact (ih b).app (.cons a .nil)
theorem Rps.dropLast {vs : List V} {ds : List Sk.D} (h : Rps K T H W vs ds) : Rps K T H W vs.dropLast ds.dropLast := by
  rw [List.dropLast_eq_take, List.dropLast_eq_take, h.len]
  exact h.take _
end

/-! ### the slots -/
structure Cn where
  K : PySem.W.Frag
  T : Tab
  H0 : Hp
  W0 : Own
  vs : List V
  er : Option (String × Addr)
inductive Flds (c : Cn) (H : Hp) (W : Own) (i : Nat) : List (Str × V) → List (String × Sk.F) → Prop
  | nil : Flds c H W i [] []
  | d {v : V} {x : Sk.D} {n : String} {vs : List (Str × V)} {fs : List (String × Sk.F)} : Rp c.K c.T H W v x → Flds c H W i vs fs → Flds c H W i ((Str.ofString n, v) :: vs) ((n, .d x) :: fs)
  | own {a : Addr} {xs : List V} {l : List Sk.D} {n : String} {vs : List (Str × V)} {fs : List (String × Sk.F)} : W a = some (.f i n) → H a = some (.lst xs) → Rps c.K c.T H W xs l → Flds c H W i vs fs → Flds c H W i ((Str.ofString n, .ref a) :: vs) ((n, .own l) :: fs)
def Bor (c : Cn) (i : Nat) (a : Addr) (b : Bool) : Prop := if b = true then c.vs[i]? = some (.ref a) else c.H0 a = none
def AOk (c : Cn) (H : Hp) (W : Own) (i : Nat) (v : Option (Option V)) : Sk.A → Prop
  | .un => True
  | .d x => ∃ u, v = some (some u) ∧ Rp c.K c.T H W u x
  | .own b l => ∃ a xs, v = some (some (.ref a)) ∧ W a = some (.s i) ∧ H a = some (.lst xs) ∧ Rps c.K c.T H W xs l ∧ Bor c i a b
  | .ins b k fs => ∃ a C dx vs, v = some (some (.ref a)) ∧ W a = some (.s i) ∧ c.T.cls k = some C ∧ H a = some (.ins C dx vs) ∧ Flds c H W i vs fs ∧ (fs.map (·.1)).Nodup ∧ Bor c i a b
  | .err k => ∃ a, v = some (some (.ref a)) ∧ c.er = some (k, a)
/-- the tokens name slots that there are -/
def TokIn (n : Nat) (W : Own) : Prop := ∀ a i, (W a = some (.s i) → i < n) ∧ ∀ f, W a = some (.f i f) → i < n
structure Rel (c : Cn) (H : Hp) (W : Own) (σ : L2.St) (r : Slots) : Prop where
  len : σ.length = r.length
  slot : ∀ i a, r[i]? = some a → AOk c H W i σ[i]? a
  old : ∀ a, c.H0 a ≠ none → H a ≠ none ∧ W a = c.W0 a
  tk : TokIn r.length W
theorem Flds.mv {c : Cn} {H H' : Hp} {W W' : Own} {i : Nat} (m : Mv H W H' W') (k : ∀ a xs n, W a = some (.f i n) → H a = some (.lst xs) → H' a = some (.lst xs) ∧ W' a = some (.f i n)) : ∀ {vs : List (Str × V)} {fs : List (String × Sk.F)}, Flds c H W i vs fs → Flds c H' W' i vs fs
  | _, _, .nil => .nil
  | _, _, .d r t => .d (r.mv m) (Flds.mv m k t)
  | _, _, .own w h r t => .own (k _ _ _ w h).2 (k _ _ _ w h).1 (r.mv m) (Flds.mv m k t)
/-- a slot's reading moves where its own objects stay -/
theorem AOk.mv {c : Cn} {H H' : Hp} {W W' : Own} {i : Nat} {v : Option (Option V)} {a : Sk.A} (m : Mv H W H' W') (k : ∀ x o, W x = some (.s i) → H x = some o → H' x = some o ∧ W' x = some (.s i))
    (kf : ∀ x xs n, W x = some (.f i n) → H x = some (.lst xs) → H' x = some (.lst xs) ∧ W' x = some (.f i n)) (h : AOk c H W i v a) : AOk c H' W' i v a := by
  cases a with
  | un => trivial
  | d x => obtain ⟨u, e, r⟩ := h; exact ⟨u, e, r.mv m⟩
  | own b l => obtain ⟨x, xs, e, w, hx, r, q⟩ := h; exact ⟨x, xs, e, (k _ _ w hx).2, (k _ _ w hx).1, r.mv m, q⟩
  | ins b n fs => obtain ⟨x, C, dx, vs, e, w, hc, hx, r, nd, q⟩ := h; exact ⟨x, C, dx, vs, e, (k _ _ w hx).2, hc, (k _ _ w hx).1, r.mv m kf, nd, q⟩
  | err n => exact h

/-! ### the judgements -/
def RR (c : Cn) (H : Hp) (W : Own) (σ : L2.St) (v : V) : Sk.R → Prop
  | .d x => Rp c.K c.T H W v x
  | .ref i => σ[i]? = some (some v)
def ResOk {α : Type} (c : Cn) (wx : WX) (σ : L2.St) (H : Hp) (W : Own) (P : α → Slots → Prop) : Res α → Prop
  | .ok a r => P a r
  | .exc n r => ∀ C H' W', c.T.exc n = some C → Fr H W H' W' → Rel c H' W' σ r → wx (.ref C) none σ H'
  | .bad => False
/-- an expression's run, from a relation to a relation -/
def SemE (c : Cn) (wx : WX) (te : TE) (ev : EV) : Prop := ∀ (σ : L2.St) (r : Slots) (H : Hp) (W : Own) (Q : VK), Rel c H W σ r →
  ResOk c wx σ H W (fun x r' => ∀ v H' W', Fr H W H' W' → Rel c H' W' σ r' → RR c H' W' σ v x → Q v H') (ev r) → te σ H Q
/-- .. a new list, owned by nobody else -/
def SemL (c : Cn) (wx : WX) (te : TE) (ev : EV) : Prop := ∀ (σ : L2.St) (r : Slots) (H : Hp) (W : Own) (Q : VK), Rel c H W σ r →
  ResOk c wx σ H W (fun x r' => ∀ l, x = .d (.lst l) → ∀ a xs H' W', Fr H W H' W' → Rel c H' W' σ r' → W' a = some .tmp → H a = none → H' a = some (.lst xs) → Rps c.K c.T H' W' xs l → Q (.ref a) H') (ev r) → te σ H Q
def SemT (c : Cn) (wx : WX) (tt : TT) (tv : TV) : Prop := ∀ (σ : L2.St) (r : Slots) (H : Hp) (W : Own) (Q : Bool → Hp → Prop), Rel c H W σ r →
  ResOk c wx σ H W (fun b r' => ∀ H' W', Fr H W H' W' → Rel c H' W' σ r' → Q b H') (tv r) → tt σ H Q
def SemA (c : Cn) (wx : WX) (ta : TA) (av : AV) : Prop := ∀ (σ : L2.St) (r : Slots) (H : Hp) (W : Own) (Q : List V → Hp → Prop), Rel c H W σ r →
  ResOk c wx σ H W (fun xs r' => ∀ vs H' W', Fr H W H' W' → Rel c H' W' σ r' → Paired (RR c H' W' σ) vs xs → Q vs H') (av r) → ta σ H Q
def RetOk (c : Cn) (H : Hp) (W : Own) (v : V) : RV → Prop
  | .d x => Rp c.K c.T H W v x
  | .own l => ∃ a xs, v = .ref a ∧ c.H0 a = none ∧ W a = some .tmp ∧ H a = some (.lst xs) ∧ Rps c.K c.T H W xs l
  | .ins _ _ => False
def OutOk (c : Cn) (wx : WX) (D : Ends) (H : Hp) (W : Own) : Out → Prop
  | .nx r => ∀ σ' H' W', Fr H W H' W' → Rel c H' W' σ' r → D.nx σ' H'
  | .bk r => ∀ σ' H' W', Fr H W H' W' → Rel c H' W' σ' r → D.bk σ' H'
  | .ct r => ∀ σ' H' W', Fr H W H' W' → Rel c H' W' σ' r → D.ct σ' H'
  | .rt v r => ∀ u σ' H' W', Fr H W H' W' → Rel c H' W' σ' r → RetOk c H' W' u v → D.rt u H'
  | .ex n r => ∀ C σ' H' W', c.T.exc n = some C → Fr H W H' W' → Rel c H' W' σ' r → wx (.ref C) none σ' H'
  | .bad => False
def SemS (c : Cn) (wx : WX) (ts : TS) (sv : SV) : Prop := ∀ (σ : L2.St) (r : Slots) (H : Hp) (W : Own) (D : Ends), Rel c H W σ r → OutOk c wx D H W (sv r) → ts D σ H
structure Cxt where
  cn : Cn
  wx : WX
  XP : Cx → Prop
  P : Program
  w : World
  mg : Str → Option Value
  base : Heap
  N : List Str
  sc : Scope
  k : Nat
/-- what is known of the machine's contexts -/
structure Cxt.Bas (g : Cxt) (X : Cx) : Prop where
  K : X.K = g.cn.K
  P : X.prog = g.P
  w : X.w = g.w
  mg : X.mg = g.mg
  base : X.base = g.base
  N : X.N = g.N
  sc : X.env.scope = g.sc
  nd : g.N.Nodup
structure Cxt.Run (g : Cxt) (X : Cx) : Prop where
  calm : X.calm = true
  room : Room g.k X.A
  tk : Takes X g.wx
def SE (g : Cxt) (e : Expr) (ev : EV) : Prop := ∃ te, (∀ X, g.XP X → PE X e te) ∧ SemE g.cn g.wx te ev
def SL (g : Cxt) (e : Expr) (ev : EV) : Prop := ∃ te, (∀ X, g.XP X → PE X e te) ∧ SemL g.cn g.wx te ev ∧ ∀ r x r', ev r = .ok x r' → ∃ l, x = .d (.lst l)
def STt (g : Cxt) (e : Expr) (ev : EV) : Prop := ∃ tt, (∀ X, g.XP X → PT X e tt) ∧ SemT g.cn g.wx tt (tst ev)
def SPw (g : Cxt) (e : Expr) (ev : EV) : Prop := ∃ tt, (∀ X, g.XP X → PW X e tt) ∧ SemT g.cn g.wx tt (tst ev)
def SA (g : Cxt) (es : List Expr) (av : AV) : Prop := ∃ ta, (∀ X, g.XP X → PA X es ta) ∧ SemA g.cn g.wx ta av
def SS (g : Cxt) (st : Stmt) (sv : SV) : Prop := ∃ ts, (∀ X, g.XP X → PS X st ts) ∧ SemS g.cn g.wx ts sv
def SSs (g : Cxt) (st : List Stmt) (sv : SV) : Prop := ∃ ts, (∀ X, g.XP X → PSs X st ts) ∧ SemS g.cn g.wx ts sv
end SkS

namespace SkS
open PySem PySem.Spec PyProof.Rows L2 Sk
def setW (W : Own) (p : Addr) (t : Option Tok) : Own := fun a => if a = p then t else W a
theorem setW_same {W : Own} {p : Addr} {t : Option Tok} : setW W p t p = t := by unfold setW; rw [if_pos rfl]
theorem TokIn.set {n : Nat} {W : Own} {p : Addr} {t : Option Tok} (h : TokIn n W) (ht : ∀ i, (t = some (.s i) → i < n) ∧ ∀ f, t = some (.f i f) → i < n) : TokIn n (setW W p t) := fun a i => by
  unfold setW
  by_cases q : a = p
  · rw [if_pos q]; exact ht i
  · rw [if_neg q]; exact h a i
theorem TokIn.none {n : Nat} {W : Own} {p : Addr} (h : TokIn n W) : TokIn n (setW W p none) := h.set fun i => ⟨(fun z => by cases z), (fun _ z => by cases z)⟩
theorem TokIn.tmp {n : Nat} {W : Own} {p : Addr} (h : TokIn n W) : TokIn n (setW W p (some .tmp)) := h.set fun i => ⟨(fun z => by cases z), (fun _ z => by cases z)⟩
theorem setW_ne {W : Own} {p a : Addr} {t : Option Tok} (h : a ≠ p) : setW W p t a = W a := by unfold setW; rw [if_neg h]
section
variable {c : Cn} {H : Hp} {W : Own} {σ : L2.St} {r : Slots} {p : Addr} {o : HO} {t : Option Tok}
theorem Fr.alloc (h : H p = none) : Fr H W (upd H p o) (setW W p t) := by
  have ne : ∀ a, H a ≠ none → a ≠ p := fun a q e => q (e ▸ h)
  refine ⟨fun a u q w => ?_, fun a q => ?_, fun a xs q => ?_, fun a u xs q => ?_⟩
  · have n := ne a (by rw [q]; exact fun z => by cases z)
    rw [upd_ne n, setW_ne n]
    exact ⟨q, rfl⟩
  · rw [upd_ne (ne a q)]; exact q
  · rw [upd_ne (ne a (by rw [q]; exact fun z => by cases z))]; exact q
  · rw [upd_ne (ne a (by rw [q]; exact fun z => by cases z))]; exact q
theorem Rel.alloc (R : Rel c H W σ r) (h : H p = none) (ht : ∀ i, (t = some (.s i) → i < r.length) ∧ ∀ f, t = some (.f i f) → i < r.length) : Rel c (upd H p o) (setW W p t) σ r := by
  have ne : ∀ a, H a ≠ none → a ≠ p := fun a q e => q (e ▸ h)
  have ne' : ∀ a u, H a = some u → a ≠ p := fun a u q => ne a (by rw [q]; exact fun z => by cases z)
  refine ⟨R.len, fun i a e => (R.slot i a e).mv (Fr.alloc h).mv (fun x u w q => ?_) (fun x xs n w q => ?_), fun a q => ?_, R.tk.set ht⟩
  · rw [upd_ne (ne' x u q), setW_ne (ne' x u q)]; exact ⟨q, w⟩
  · rw [upd_ne (ne' x _ q), setW_ne (ne' x _ q)]; exact ⟨q, w⟩
  · obtain ⟨h1, h2⟩ := R.old a q
    rw [upd_ne (ne a h1), setW_ne (ne a h1)]
    exact ⟨h1, h2⟩
theorem at_some {i : Nat} {a : Sk.A} (h : at_ r i = a) (n : a ≠ .un) : r[i]? = some a := by
  unfold at_ at h
  cases e : r[i]? with
  | none => rw [e] at h; exact absurd h.symm n
  | some b => rw [e] at h; exact congrArg some h
theorem Rel.lt (R : Rel c H W σ r) {i : Nat} {a : Sk.A} (h : r[i]? = some a) : i < σ.length := by
  rw [R.len]; exact (List.getElem?_eq_some_iff.mp h).1
/-- the object of slot i is written, its token kept -/
theorem Fr.write {i : Nat} {a : Addr} {u : HO} {x : HO} (w : W a = some (.s i)) (h : H a = some u) (hu : ∀ xs, u ≠ .tup xs) (hf : ∀ q xs, u ≠ .frz q (.tup xs)) : Fr H W (upd H a x) W := by
  refine ⟨fun b z q k => ?_, fun b q => ?_, fun b xs q => ?_, fun b z xs q => ?_⟩
  · have n : b ≠ a := fun e => by subst e; rcases k with k | k | k <;> rw [w] at k <;> cases k
    rw [upd_ne n]; exact ⟨q, rfl⟩
  · by_cases n : b = a
    · subst n; rw [upd_same]; exact fun z => by cases z
    · rw [upd_ne n]; exact q
  · have n : b ≠ a := fun e => by subst e; rw [h] at q; exact hu xs (Option.some.inj q)
    rw [upd_ne n]; exact q
  · have n : b ≠ a := fun e => by subst e; rw [h] at q; exact hf z xs (Option.some.inj q)
    rw [upd_ne n]; exact q
theorem Fr.writeF {i : Nat} {n : String} {a : Addr} {xs : List V} {x : HO} (w : W a = some (.f i n)) (h : H a = some (.lst xs)) : Fr H W (upd H a x) W := by
  refine ⟨fun b z q k => ?_, fun b q => ?_, fun b ys q => ?_, fun b z ys q => ?_⟩
  · have n : b ≠ a := fun e => by subst e; rcases k with k | k | k <;> rw [w] at k <;> cases k
    rw [upd_ne n]; exact ⟨q, rfl⟩
  · by_cases n : b = a
    · subst n; rw [upd_same]; exact fun z => by cases z
    · rw [upd_ne n]; exact q
  · have n : b ≠ a := fun e => by subst e; rw [h] at q; cases q
    rw [upd_ne n]; exact q
  · have n : b ≠ a := fun e => by subst e; rw [h] at q; cases q
    rw [upd_ne n]; exact q
theorem getElem?_set_self' {α : Type} {l : List α} {i : Nat} {x y : α} (h : (l.set i x)[i]? = some y) : y = x := by
  rw [List.getElem?_set] at h
  simp at h
  exact h.2.symm
/-- a list in slot i is changed -/
theorem Rel.wrList (R : Rel c H W σ r) {i : Nat} {b : Bool} {l l' : List Sk.D} {a : Addr} {xs : List V} (e : r[i]? = some (.own b l)) (es : σ[i]? = some (some (.ref a))) (hx : Rps c.K c.T H W xs l') :
    Fr H W (upd H a (.lst xs)) W ∧ Rel c (upd H a (.lst xs)) W σ (r.set i (.own b l')) := by
  obtain ⟨a', ys, es', w, hy, _, bo⟩ := R.slot i _ e
  rw [es] at es'; cases es'
  have fr : Fr H W (upd H a (.lst xs)) W := Fr.write w hy (fun _ z => by cases z) fun _ _ z => by cases z
  refine ⟨fr, ⟨by rw [R.len, List.length_set], fun j x ej => ?_, fun z q => ⟨fr.there _ (R.old z q).1, (R.old z q).2⟩, by rw [List.length_set]; exact R.tk⟩⟩
  by_cases hj : j = i
  · subst hj
    obtain rfl := getElem?_set_self' ej
    exact ⟨a, xs, es, w, upd_same, hx.mv fr.mv, bo⟩
  · rw [List.getElem?_set_ne (Ne.symm hj)] at ej
    refine (R.slot j x ej).mv fr.mv (fun z u wz q => ?_) fun z zs n wz q => ?_
    · have n : z ≠ a := fun e => by subst e; rw [w] at wz; cases wz; exact hj rfl
      rw [upd_ne n]; exact ⟨q, wz⟩
    · have n : z ≠ a := fun e => by subst e; rw [w] at wz; cases wz
      rw [upd_ne n]; exact ⟨q, wz⟩
/-- slot i is stored: plain data -/
theorem Rel.setD (R : Rel c H W σ r) {i : Nat} {v : V} {x : Sk.D} (rx : Rp c.K c.T H W v x) : Rel c H W (σ.set i (some v)) (r.set i (.d x)) := by
  refine ⟨by rw [List.length_set, List.length_set, R.len], fun j a ej => ?_, R.old, by rw [List.length_set]; exact R.tk⟩
  by_cases hj : j = i
  · subst hj
    have hlt : j < σ.length := by
      have := (List.getElem?_eq_some_iff.mp ej).1
      rw [List.length_set] at this
      rw [R.len]; exact this
    obtain rfl := getElem?_set_self' ej
    exact ⟨v, by rw [List.getElem?_set_self hlt], rx⟩
  · rw [List.getElem?_set_ne (Ne.symm hj)] at ej ⊢
    exact R.slot j a ej
theorem Rel.setUn (R : Rel c H W σ r) {i : Nat} {v : Option V} : Rel c H W (σ.set i v) (r.set i .un) := by
  refine ⟨by rw [List.length_set, List.length_set, R.len], fun j a ej => ?_, R.old, by rw [List.length_set]; exact R.tk⟩
  by_cases hj : j = i
  · subst hj
    obtain rfl := getElem?_set_self' ej
    trivial
  · rw [List.getElem?_set_ne (Ne.symm hj)] at ej ⊢
    exact R.slot j a ej
theorem Rel.un (R : Rel c H W σ r) {i : Nat} : Rel c H W σ (r.set i .un) := by
  refine ⟨by rw [List.length_set, R.len], fun j a ej => ?_, R.old, by rw [List.length_set]; exact R.tk⟩
  by_cases hj : j = i
  · subst hj
    obtain rfl := getElem?_set_self' ej
    trivial
  · rw [List.getElem?_set_ne (Ne.symm hj)] at ej
    exact R.slot j a ej
theorem Fr.retag {p : Addr} {t : Option Tok} (w : W p ≠ none) (w2 : W p ≠ some .tmp) (w3 : W p ≠ some .oth) : Fr H W H (setW W p t) := by
  refine ⟨fun a u q k => ⟨q, setW_ne fun e => ?_⟩, fun _ q => q, fun _ _ q => q, fun _ _ _ q => q⟩
  subst e
  rcases k with k | k | k
  · exact w k
  · exact w2 k
  · exact w3 k
/-- a new list (tmp) that slot i takes -/
theorem Rel.take (R : Rel c H W σ r) {i : Nat} {a : Addr} {xs : List V} {l : List Sk.D} (w : W a = some .tmp) (h : H a = some (.lst xs)) (hx : Rps c.K c.T H W xs l) (h0 : c.H0 a = none) (hi : i < r.length) :
    Rel c H (setW W a (some (.s i))) (σ.set i (some (.ref a))) (r.set i (.own false l)) := by
  have mv : Mv H W H (setW W a (some (.s i))) := ⟨fun b u q k => ⟨q, by rw [setW_ne fun e => by subst e; rw [w] at k; cases k]; exact k⟩, fun _ _ q => q, fun _ _ _ q => q⟩
  refine ⟨by rw [List.length_set, List.length_set, R.len], fun j x ej => ?_, fun z q => ⟨(R.old z q).1, ?_⟩, by rw [List.length_set]; exact R.tk.set fun k => ⟨(fun z => by cases z; exact hi), (fun _ z => by cases z)⟩⟩
  · by_cases hj : j = i
    · subst hj
      have hlt : j < σ.length := by
        have := (List.getElem?_eq_some_iff.mp ej).1
        rw [List.length_set] at this
        rw [R.len]; exact this
      obtain rfl := getElem?_set_self' ej
      exact ⟨a, xs, by rw [List.getElem?_set_self hlt], setW_same, h, hx.mv mv, by unfold Bor; rw [if_neg Bool.false_ne_true]; exact h0⟩
    · rw [List.getElem?_set_ne (Ne.symm hj)] at ej ⊢
      refine (R.slot j x ej).mv mv (fun z u wz q => ?_) fun z zs n wz q => ?_
      · exact ⟨q, by rw [setW_ne fun e => by subst e; rw [w] at wz; cases wz]; exact wz⟩
      · exact ⟨q, by rw [setW_ne fun e => by subst e; rw [w] at wz; cases wz]; exact wz⟩
  · rw [setW_ne fun e => by subst e; exact q h0]
    exact (R.old z q).2
end
end SkS

namespace SkS
open PySem PySem.Spec PyProof.Rows L2 Sk
section
variable {c : Cn} {wx : WX} {H H' : Hp} {W W' : Own} {σ : L2.St} {r : Slots}
theorem Fr.newTag {a : Addr} {t : Option Tok} (f : Fr H W H' W') (h : H a = none) : Fr H W H' (setW W' a t) := by
  refine ⟨fun x o q k => ⟨(f.keep x o q k).1, ?_⟩, f.there, f.tup, f.frz⟩
  rw [setW_ne fun e => by subst e; rw [h] at q; cases q]
  exact (f.keep x o q k).2
abbrev PoE (c : Cn) (σ : L2.St) (Q : VK) (H : Hp) (W : Own) : R → Slots → Prop := fun x r' => ∀ v H' W', Fr H W H' W' → Rel c H' W' σ r' → RR c H' W' σ v x → Q v H'
abbrev PoT (c : Cn) (σ : L2.St) (Q : Bool → Hp → Prop) (H : Hp) (W : Own) : Bool → Slots → Prop := fun b r' => ∀ H' W', Fr H W H' W' → Rel c H' W' σ r' → Q b H'
abbrev PoA (c : Cn) (σ : L2.St) (Q : List V → Hp → Prop) (H : Hp) (W : Own) : List R → Slots → Prop := fun xs r' => ∀ vs H' W', Fr H W H' W' → Rel c H' W' σ r' → Paired (RR c H' W' σ) vs xs → Q vs H'
abbrev PoL (c : Cn) (σ : L2.St) (Q : VK) (H : Hp) (W : Own) : R → Slots → Prop := fun x r' => ∀ l, x = .d (.lst l) → ∀ a xs H' W', Fr H W H' W' → Rel c H' W' σ r' → W' a = some .tmp → H a = none → H' a = some (.lst xs) → Rps c.K c.T H' W' xs l → Q (.ref a) H'
def Shift {β : Type} (P : Hp → Own → β → Slots → Prop) : Prop := ∀ H W H' W' b r, Fr H W H' W' → P H W b r → P H' W' b r
theorem shE {Q : VK} : Shift (PoE c σ Q) := fun _ _ _ _ _ _ f h v H2 W2 f2 => h v H2 W2 (f.trans f2)
theorem shT {Q : Bool → Hp → Prop} : Shift (PoT c σ Q) := fun _ _ _ _ _ _ f h H2 W2 f2 => h H2 W2 (f.trans f2)
theorem shA {Q : List V → Hp → Prop} : Shift (PoA c σ Q) := fun _ _ _ _ _ _ f h v H2 W2 f2 => h v H2 W2 (f.trans f2)
theorem Fr.noneB {a : Addr} (f : Fr H W H' W') (h : H' a = none) : H a = none := by
  cases e : H a with
  | none => rfl
  | some u => exact absurd h (f.there a (by rw [e]; exact fun z => by cases z))
theorem shL {Q : VK} : Shift (PoL c σ Q) := fun _ _ _ _ _ _ f h l e a xs H2 W2 f2 R t n => h l e a xs H2 W2 (f.trans f2) R t (f.noneB n)
theorem ResOk.shift {β : Type} {P : Hp → Own → β → Slots → Prop} {x : Res β} (sh : Shift P) (f : Fr H W H' W') (h : ResOk c wx σ H W (P H W) x) : ResOk c wx σ H' W' (P H' W') x := by
  cases x with
  | ok a r => exact sh _ _ _ _ _ _ f h
  | exc n r => exact fun C H2 W2 e f2 => h C H2 W2 e (f.trans f2)
  | bad => exact h
theorem bindE {β : Type} {P : Hp → Own → β → Slots → Prop} {te : TE} {ev : EV} {f : R → Slots → Res β} {Q : VK} (sh : Shift P) (he : SemE c wx te ev) (R : Rel c H W σ r) (h : ResOk c wx σ H W (P H W) ((ev r).bind f))
    (k : ∀ x r' v H' W', Fr H W H' W' → Rel c H' W' σ r' → RR c H' W' σ v x → ResOk c wx σ H' W' (P H' W') (f x r') → Q v H') : te σ H Q := by
  refine he σ r H W Q R ?_
  cases e : ev r with
  | ok x r1 =>
    rw [e] at h
    exact fun v H1 W1 f1 R1 rr1 => k x r1 v H1 W1 f1 R1 rr1 (ResOk.shift sh f1 h)
  | exc n r1 => rw [e] at h; exact h
  | bad => rw [e] at h; exact h
theorem bindL {β : Type} {P : Hp → Own → β → Slots → Prop} {te : TE} {ev : EV} {f : R → Slots → Res β} {Q : VK} (sh : Shift P) (he : SemL c wx te ev) (R : Rel c H W σ r) (h : ResOk c wx σ H W (P H W) ((ev r).bind f))
    (k : ∀ l r' a xs H' W', Fr H W H' W' → Rel c H' W' σ r' → W' a = some .tmp → H a = none → H' a = some (.lst xs) → Rps c.K c.T H' W' xs l → ResOk c wx σ H' W' (P H' W') (f (.d (.lst l)) r') → Q (.ref a) H') : te σ H Q := by
  refine he σ r H W Q R ?_
  cases e : ev r with
  | ok x r1 =>
    rw [e] at h
    intro l el a xs H1 W1 f1 R1 t n hx rx
    subst el
    exact k l r1 a xs H1 W1 f1 R1 t n hx rx (ResOk.shift sh f1 h)
  | exc n r1 => rw [e] at h; exact h
  | bad => rw [e] at h; exact h
theorem bindA {β : Type} {P : Hp → Own → β → Slots → Prop} {ta : TA} {av : AV} {f : List R → Slots → Res β} {Q : List V → Hp → Prop} (sh : Shift P) (he : SemA c wx ta av) (R : Rel c H W σ r) (h : ResOk c wx σ H W (P H W) ((av r).bind f))
    (k : ∀ x r' v H' W', Fr H W H' W' → Rel c H' W' σ r' → Paired (RR c H' W' σ) v x → ResOk c wx σ H' W' (P H' W') (f x r') → Q v H') : ta σ H Q := by
  refine he σ r H W Q R ?_
  cases e : av r with
  | ok x r1 =>
    rw [e] at h
    exact fun v H1 W1 f1 R1 rr1 => k x r1 v H1 W1 f1 R1 rr1 (ResOk.shift sh f1 h)
  | exc n r1 => rw [e] at h; exact h
  | bad => rw [e] at h; exact h
theorem bindT {β : Type} {P : Hp → Own → β → Slots → Prop} {tt : TT} {tv : TV} {f : Bool → Slots → Res β} {Q : Bool → Hp → Prop} (sh : Shift P) (he : SemT c wx tt tv) (R : Rel c H W σ r) (h : ResOk c wx σ H W (P H W) ((tv r).bind f))
    (k : ∀ x r' H' W', Fr H W H' W' → Rel c H' W' σ r' → ResOk c wx σ H' W' (P H' W') (f x r') → Q x H') : tt σ H Q := by
  refine he σ r H W Q R ?_
  cases e : tv r with
  | ok x r1 =>
    rw [e] at h
    exact fun H1 W1 f1 R1 => k x r1 H1 W1 f1 R1 (ResOk.shift sh f1 h)
  | exc n r1 => rw [e] at h; exact h
  | bad => rw [e] at h; exact h
theorem RR.mv {v : V} {x : R} (f : Fr H W H' W') (h : RR c H W σ v x) : RR c H' W' σ v x := by
  cases x with
  | d x => exact Rp.mv f.mv h
  | ref i => exact h
theorem RRs.mv {vs : List V} {xs : List R} (f : Fr H W H' W') (h : Paired (RR c H W σ) vs xs) : Paired (RR c H' W' σ) vs xs := Paired.mapP h fun _ _ z => RR.mv f z
/-- a value as it is read now -/
inductive Rv (c : Cn) (H : Hp) (W : Own) : V → Sk.D → Prop
  | of {v : V} {d : Sk.D} : Rp c.K c.T H W v d → Rv c H W v d
  | own {a : Addr} {xs : List V} {l : List Sk.D} : H a = some (.lst xs) → Rps c.K c.T H W xs l → Rv c H W (.ref a) (.lst l)
theorem RR.rv {v : V} {x : R} {d : Sk.D} (R : Rel c H W σ r) (h : RR c H W σ v x) (e : x.val r = some d) : Rv c H W v d := by
  cases x with
  | d x => cases e; exact .of h
  | ref i =>
    have e1 : (match at_ r i with
      | .own _ l => some (Sk.D.lst l)
      | _ => none) = some d := e
    cases q : at_ r i with
    | own b l =>
      rw [q] at e1
      cases e1
      obtain ⟨a, xs, es, w, hx, rx, _⟩ := R.slot i _ (at_some q (fun z => by cases z))
      have es' : σ[i]? = some (some v) := h
      rw [es] at es'; cases es'
      exact .own hx rx
    | un => rw [q] at e1; cases e1
    | d x => rw [q] at e1; cases e1
    | ins b n fs => rw [q] at e1; cases e1
    | err n => rw [q] at e1; cases e1
theorem Rv.lst {v : V} {l : List Sk.D} (h : Rv c H W v (.lst l)) : ∃ a xs, v = .ref a ∧ H a = some (.lst xs) ∧ Rps c.K c.T H W xs l := by
  cases h with
  | of h => cases h with
    | lst h w r => exact ⟨_, _, rfl, h, r⟩
  | own h r => exact ⟨_, _, rfl, h, r⟩
theorem Rv.tup {v : V} {l : List Sk.D} (h : Rv c H W v (.tup l)) : ∃ a xs, v = .ref a ∧ SqT c.K H a xs ∧ Rps c.K c.T H W xs l := by
  cases h with
  | of h => cases h with
    | tup h r => exact ⟨_, _, rfl, h, r⟩
theorem Rv.int {v : V} {i : Int} (h : Rv c H W v (.int i)) : v = .int i := by
  cases h with
  | of h => cases h; rfl
theorem Rv.bl {v : V} {i : Bool} (h : Rv c H W v (.bl i)) : v = .bl i := by
  cases h with
  | of h => cases h; rfl
theorem Rv.non {v : V} (h : Rv c H W v .non) : v = .non := by
  cases h with
  | of h => cases h; rfl
theorem Rv.str {v : V} {s : Txt} (h : Rv c H W v (.str s)) : v = .str ⟨s.toArray⟩ ∧ s.length ≤ sizeLine := by
  cases h with
  | of h => cases h with
    | str _ hs => exact ⟨rfl, hs⟩
end

/-! ### sums of rules -/
def Tr (c : Cn) (H : Hp) (W : Own) (H' : Hp) (W' : Own) : Prop := Fr H W H' W' ∧ ∀ σ r, Rel c H W σ r → Rel c H' W' σ r
theorem Tr.refl {c : Cn} {H : Hp} {W : Own} : Tr c H W H W := ⟨Fr.refl, fun _ _ h => h⟩
theorem Tr.new {c : Cn} {H : Hp} {W : Own} {p : Addr} {o : HO} {t : Option Tok} (h : H p = none) (ht : ∀ i n, t ≠ some (.s i) ∧ t ≠ some (.f i n) := by exact fun _ _ => ⟨(fun z => by cases z), (fun z => by cases z)⟩) : Tr c H W (upd H p o) (setW W p t) := ⟨Fr.alloc h, fun _ _ R => R.alloc h fun i => ⟨fun z => absurd z (ht i "").1, fun f z => absurd z (ht i f).2⟩⟩
def OpS (c : Cn) (rr : R2) (op : Op2) : Prop := ∀ (H : Hp) (W : Own) (x y : V) (u v z : Sk.D) (Q : VK), Rv c H W x u → Rv c H W y v → op u v = some z → (∀ w H' W', Tr c H W H' W' → Rp c.K c.T H' W' w z → Q w H') → rr x y H Q
def OpSL (c : Cn) (rr : R2) (op : Op2) : Prop := ∀ (H : Hp) (W : Own) (x y : V) (u v z : Sk.D) (Q : VK), Rv c H W x u → Rv c H W y v → op u v = some z → ∃ l, z = .lst l ∧ ((∀ a xs H' W', Tr c H W H' W' → W' a = some .tmp → H a = none → H' a = some (.lst xs) → Rps c.K c.T H' W' xs l → Q (.ref a) H') → rr x y H Q)
section
variable {g : Cxt} {a b e : Expr} {ea eb ev : EV} {pos : Pos} {op : Op2} {rr : R2}
theorem sem_op {ta tb : TE} (hs : OpS g.cn rr op) (sa : SemE g.cn g.wx ta ea) (sb : SemE g.cn g.wx tb eb) : SemE g.cn g.wx (tOp rr ta tb) (eOp op ea eb) := by
  intro σ r H W Q R h
  show ta σ H (fun x H1 => tb σ H1 fun y H2 => rr x y H2 Q)
  refine bindE (P := PoE g.cn σ Q) shE sa R h fun x r1 v H1 W1 f1 R1 rr1 h1 => ?_
  refine bindE (P := PoE g.cn σ Q) shE sb R1 h1 fun y r2 w H2 W2 f2 R2 rr2 h2 => ?_
  cases ex : x.val r2 with
  | none => rw [ex] at h2; exact False.elim h2
  | some u =>
    cases ey : y.val r2 with
    | none => rw [ex, ey] at h2; exact False.elim h2
    | some u' =>
      cases eo : op u u' with
      | none => rw [ex, ey] at h2; simp only [Option.bind_some] at h2; rw [eo] at h2; exact False.elim h2
      | some z =>
        rw [ex, ey] at h2
        simp only [Option.bind_some] at h2
        rw [eo] at h2
        exact hs H2 W2 v w u u' z Q ((rr1.mv f2).rv R2 ex) (rr2.rv R2 ey) eo fun w3 H3 W3 t3 rp => h2 w3 H3 W3 t3.1 (t3.2 σ r2 R2) rp
theorem sem_opL {ta tb : TE} (hs : OpSL g.cn rr op) (sa : SemE g.cn g.wx ta ea) (sb : SemE g.cn g.wx tb eb) : SemL g.cn g.wx (tOp rr ta tb) (eOp op ea eb) := by
  intro σ r H W Q R h
  show ta σ H (fun x H1 => tb σ H1 fun y H2 => rr x y H2 Q)
  refine bindE (P := PoL g.cn σ Q) shL sa R h fun x r1 v H1 W1 f1 R1 rr1 h1 => ?_
  refine bindE (P := PoL g.cn σ Q) shL sb R1 h1 fun y r2 w H2 W2 f2 R2 rr2 h2 => ?_
  cases ex : x.val r2 with
  | none => rw [ex] at h2; exact False.elim h2
  | some u =>
    cases ey : y.val r2 with
    | none => rw [ex, ey] at h2; exact False.elim h2
    | some u' =>
      cases eo : op u u' with
      | none => rw [ex, ey] at h2; simp only [Option.bind_some] at h2; rw [eo] at h2; exact False.elim h2
      | some z =>
        rw [ex, ey] at h2
        simp only [Option.bind_some] at h2
        rw [eo] at h2
        obtain ⟨l, rfl, hk⟩ := hs H2 W2 v w u u' z Q ((rr1.mv f2).rv R2 ex) (rr2.rv R2 ey) eo
        exact hk fun a xs H3 W3 t3 wt n hx rx => h2 l rfl a xs H3 W3 t3.1 (t3.2 σ r2 R2) wt n hx rx
theorem eOp_lst (hop : ∀ u v z, op u v = some z → ∃ l, z = .lst l) : ∀ r x r', eOp op ea eb r = .ok x r' → ∃ l, x = .d (.lst l) := by
  intro r x r' h
  unfold eOp at h
  cases e1 : ea r with
  | bad => rw [e1] at h; cases h
  | exc n q => rw [e1] at h; cases h
  | ok x1 r1 =>
    rw [e1] at h
    simp only [Res.bind_ok] at h
    cases e2 : eb r1 with
    | bad => rw [e2] at h; cases h
    | exc n q => rw [e2] at h; cases h
    | ok x2 r2 =>
      rw [e2] at h
      simp only [Res.bind_ok] at h
      cases ex : x1.val r2 with
      | none => rw [ex] at h; cases h
      | some u =>
        cases ey : x2.val r2 with
        | none => rw [ex, ey] at h; cases h
        | some v =>
          cases eo : op u v with
          | none => rw [ex, ey] at h; simp only [Option.bind_some] at h; rw [eo] at h; cases h
          | some z =>
            rw [ex, ey] at h
            simp only [Option.bind_some] at h
            rw [eo] at h
            obtain ⟨l, rfl⟩ := hop u v z eo
            cases h
            exact ⟨l, rfl⟩
theorem se_op {po : Operator} (ho : ∀ X, g.XP X → OpR X (binaryOp po) rr) (hs : OpS g.cn rr op) (ha : SE g a ea) (hb : SE g b eb) : SE g (.BinOp a po b pos) (eOp op ea eb) := by
  obtain ⟨ta, pa, sa⟩ := ha
  obtain ⟨tb, pb, sb⟩ := hb
  exact ⟨_, fun X x => pe_op (ho X x) (pa X x) (pb X x), sem_op hs sa sb⟩
theorem se_cmp {co : CmpOp} (ho : ∀ X, g.XP X → OpR X (compareOp co) rr) (hs : OpS g.cn rr op) (ha : SE g a ea) (hb : SE g b eb) (hm : behindInMarks co b = false) : SE g (.Compare a [co] [b] pos) (eOp op ea eb) := by
  obtain ⟨ta, pa, sa⟩ := ha
  obtain ⟨tb, pb, sb⟩ := hb
  exact ⟨_, fun X x => pe_cmpR (ho X x) (pa X x) (pb X x) hm, sem_op hs sa sb⟩
/-- a bool value as a test -/
theorem sem_test {te : TE} (se : SemE g.cn g.wx te ev) : SemT g.cn g.wx (tTest te) (tst ev) := by
  intro σ r H W Q R h
  show te σ H (fun x H' => ∃ k, x = .bl k ∧ Q k H')
  refine bindE (P := PoT g.cn σ Q) shT se R h fun x r1 v H1 W1 f1 R1 rr1 h1 => ?_
  cases x with
  | ref i => exact False.elim h1
  | d x =>
    cases x with
    | bl b =>
      cases rr1
      exact ⟨b, rfl, h1 H1 W1 Fr.refl R1⟩
    | _ => exact False.elim h1
theorem st_cmp {co : CmpOp} (ho : ∀ X, g.XP X → OpR X (compareOp co) rr) (hs : OpS g.cn rr op) (ha : SE g a ea) (hb : SE g b eb) (hm : behindInMarks co b = false) : STt g (.Compare a [co] [b] pos) (eOp op ea eb) := by
  obtain ⟨ta, pa, sa⟩ := ha
  obtain ⟨tb, pb, sb⟩ := hb
  exact ⟨_, fun X x => pt_cmpR (ho X x) (pa X x) (pb X x) hm, sem_test (sem_op hs sa sb)⟩
theorem st_val (h : SE g e ev) (he : ∀ X, g.XP X → ∀ whole, isTrue e X.env whole = (do let v ← whole; standAt e.pos; holding [v] (truthy v))) : STt g e ev := by
  obtain ⟨te, pe, se⟩ := h
  exact ⟨_, fun X x => pt_val (pe X x) (he X x), sem_test se⟩
theorem se_of_sl (h : SL g e ev) : SE g e ev := by
  obtain ⟨te, pe, se, hl⟩ := h
  refine ⟨te, pe, fun σ r H W Q R h => ?_⟩
  refine se σ r H W Q R ?_
  cases e : ev r with
  | bad => rw [e] at h; exact h
  | exc n q => rw [e] at h; exact h
  | ok x r1 =>
    rw [e] at h
    intro l el a xs H1 W1 f1 R1 wt n hx rx
    subst el
    have mv : Mv H1 W1 H1 (setW W1 a none) := ⟨fun b o q k => ⟨q, by
      by_cases z : b = a
      · rw [z, setW_same]
      · rw [setW_ne z]; exact k⟩, fun _ _ q => q, fun _ _ _ q => q⟩
    have R2 : Rel g.cn H1 (setW W1 a none) σ r1 := by
      refine ⟨R1.len, fun i u ei => (R1.slot i u ei).mv mv (fun y o w q => ⟨q, ?_⟩) (fun y ys m w q => ⟨q, ?_⟩), fun z q => ⟨(R1.old z q).1, ?_⟩, R1.tk.none⟩
      · rw [setW_ne fun z => by subst z; rw [wt] at w; cases w]; exact w
      · rw [setW_ne fun z => by subst z; rw [wt] at w; cases w]; exact w
      · rw [setW_ne fun y => by subst y; exact (R.old _ q).1 n]; exact (R1.old z q).2
    exact h (.ref a) H1 (setW W1 a none) (f1.newTag n) R2 (.lst hx setW_same (rx.mv mv))
end
end SkS

namespace SkS
open PySem PySem.Spec PyProof.Rows L2 Sk
section
variable {c : Cn}
theorem line_eq : Sk.line = sizeLine := by rw [sizeLine_eq]
theorem okSz_some {n : Nat} {x z : Sk.D} (h : okSz n x = some z) : n ≤ sizeLine ∧ z = x := by
  unfold okSz at h
  by_cases q : Fits n
  · rw [if_pos q] at h; cases h; exact ⟨by rw [← line_eq]; exact q, rfl⟩
  · rw [if_neg q] at h; cases h
/-! ### operators -/
theorem ops_intB {f : Int → Int → V} {gD : Int → Int → Sk.D} {op : Op2} (hf : ∀ H W i j, Rp c.K c.T H W (f i j) (gD i j))
    (hop : ∀ u v z, op u v = some z → ∃ i j, u = .int i ∧ v = .int j ∧ z = gD i j) : OpS c (rI0 f) op := by
  intro H W x y u v z Q rx ry e k
  obtain ⟨i, j, rfl, rfl, rfl⟩ := hop u v z e
  exact ⟨i, j, rx.int, ry.int, k _ H W Tr.refl (hf H W i j)⟩
theorem ops_int {C : Int → Int → Prop} {f : Int → Int → V} {gD : Int → Int → Sk.D} {op : Op2} (hf : ∀ H W i j, Rp c.K c.T H W (f i j) (gD i j))
    (hop : ∀ u v z, op u v = some z → ∃ i j, u = .int i ∧ v = .int j ∧ C i j ∧ z = gD i j) : OpS c (rI C f) op := by
  intro H W x y u v z Q rx ry e k
  obtain ⟨i, j, rfl, rfl, hc, rfl⟩ := hop u v z e
  exact ⟨i, j, rx.int, ry.int, hc, k _ H W Tr.refl (hf H W i j)⟩
theorem two_ints {op : Op2} {u v z : Sk.D} {P : Int → Int → Sk.D → Prop} (h : op u v = some z) (hi : ∀ i j, op (.int i) (.int j) = some z → P i j z) (hn : ∀ u v, (∀ i j, ¬ (u = .int i ∧ v = .int j)) → op u v = none) : ∃ i j, u = .int i ∧ v = .int j ∧ P i j z := by
  by_cases q : ∃ i j, u = .int i ∧ v = .int j
  · obtain ⟨i, j, rfl, rfl⟩ := q
    exact ⟨i, j, rfl, rfl, hi i j h⟩
  · rw [hn u v fun i j z => q ⟨i, j, z⟩] at h; cases h
theorem ops_sub : OpS c (rI0 fun i j => .int (i - j)) opSub := ops_intB (gD := fun i j => .int (i - j)) (fun _ _ _ _ => .int _) fun u v z h => by
  cases u <;> cases v <;> simp at h
  exact ⟨_, _, rfl, rfl, h.symm⟩
theorem ops_lt : OpS c (rI0 fun i j => .bl (decide (i < j))) opLt := ops_intB (gD := fun i j => .bl (decide (i < j))) (fun _ _ _ _ => .bl _) fun u v z h => by
  cases u <;> cases v <;> simp at h
  exact ⟨_, _, rfl, rfl, h.symm⟩
theorem ops_le : OpS c (rI0 fun i j => .bl (decide (i ≤ j))) opLe := ops_intB (gD := fun i j => .bl (decide (i ≤ j))) (fun _ _ _ _ => .bl _) fun u v z h => by
  cases u <;> cases v <;> simp at h
  exact ⟨_, _, rfl, rfl, h.symm⟩
theorem ops_gt : OpS c (rI0 fun i j => .bl (decide (j < i))) opGt := ops_intB (gD := fun i j => .bl (decide (j < i))) (fun _ _ _ _ => .bl _) fun u v z h => by
  cases u <;> cases v <;> simp at h
  exact ⟨_, _, rfl, rfl, h.symm⟩
theorem ops_ge : OpS c (rI0 fun i j => .bl (decide (j ≤ i))) opGe := ops_intB (gD := fun i j => .bl (decide (j ≤ i))) (fun _ _ _ _ => .bl _) fun u v z h => by
  cases u <;> cases v <;> simp at h
  exact ⟨_, _, rfl, rfl, h.symm⟩
theorem ops_mul : OpS c (rI CMul fun i j => .int (i * j)) opMul := ops_int (gD := fun i j => .int (i * j)) (fun _ _ _ _ => .int _) fun u v z h => by
  cases u with
  | int i => cases v with
    | int j =>
      simp only [opMul] at h
      split at h
      · rename_i q; cases h; exact ⟨_, _, rfl, rfl, q, rfl⟩
      · cases h
    | _ => simp at h
  | _ => simp at h
theorem ops_div : OpS c (rI CDiv fun i j => .int (i / j)) opDiv := ops_int (gD := fun i j => .int (i / j)) (fun _ _ _ _ => .int _) fun u v z h => by
  cases u with
  | int i => cases v with
    | int j =>
      simp only [opDiv] at h
      split at h
      · rename_i q; cases h; exact ⟨_, _, rfl, rfl, q, rfl⟩
      · cases h
    | _ => simp at h
  | _ => simp at h
theorem ops_mod : OpS c (rI (fun _ j => 0 < j) fun i j => .int (i % j)) opMod := ops_int (gD := fun i j => .int (i % j)) (fun _ _ _ _ => .int _) fun u v z h => by
  cases u with
  | int i => cases v with
    | int j =>
      simp only [opMod] at h
      split at h
      · rename_i q; cases h; exact ⟨_, _, rfl, rfl, q, rfl⟩
      · cases h
    | _ => simp at h
  | _ => simp at h
/-- + by kinds -/
noncomputable abbrev opAddI : Op2 := fun u v => match u, v with
  | .int _, .int _ => opAdd u v
  | _, _ => none
def rAddAll (K : PySem.W.Frag) : R2 := fun x y H Q => (rI0 (fun i j => .int (i + j)) x y H Q) ∨ (∃ i j, x = .str i ∧ y = .str j ∧ i.length + j.length ≤ sizeLine ∧ Q (.str (i ++ j)) H) ∨ rCatA K x y H Q ∨ rCat x y H Q
theorem op_addAll {X : Cx} : OpR X (binaryOp .Add) (rAddAll X.K) := op_add.or (op_add_str.or (op_catA.or op_cat))
theorem str_len (s : Txt) : (⟨s.toArray⟩ : Str).length = s.length := by show s.toArray.size = _; simp
theorem str_app (s t : Txt) : (⟨s.toArray⟩ ++ ⟨t.toArray⟩ : Str) = ⟨(s ++ t).toArray⟩ := by
  show (⟨s.toArray ++ t.toArray⟩ : Str) = _
  rw [List.append_toArray]
theorem Rps.nil_l {K : PySem.W.Frag} {T : Tab} {H : Hp} {W : Own} {xs : List V} {l : List Sk.D} (h : Rps K T H W xs l) : xs = [] ↔ l = [] := by
  cases h with
  | nil => simp
  | cons => simp
theorem ops_add : OpS c (rAddAll c.K) opAdd := by
  intro H W x y u v z Q rx ry e k
  cases u with
  | int i => cases v with
    | int j => simp at e; subst e; exact .inl ⟨i, j, rx.int, ry.int, k _ H W Tr.refl (.int _)⟩
    | _ => simp at e
  | str s => cases v with
    | str t =>
      obtain ⟨hz, rfl⟩ := okSz_some (show okSz (s.length + t.length) (.str (s ++ t)) = some z from e)
      obtain ⟨e1, h1⟩ := rx.str
      obtain ⟨e2, h2⟩ := ry.str
      refine .inr (.inl ⟨_, _, e1, e2, by rw [str_len, str_len]; exact hz, ?_⟩)
      rw [str_app]
      exact k _ H W Tr.refl (.str _ (by rw [List.length_append]; exact hz))
    | _ => simp at e
  | tup s => cases v with
    | tup t =>
      obtain ⟨hz, rfl⟩ := okSz_some (show okSz (s.length + t.length) (.tup (s ++ t)) = some z from e)
      obtain ⟨a, xs, e1, h1, r1⟩ := rx.tup
      obtain ⟨b, ys, e2, h2, r2⟩ := ry.tup
      subst e1; subst e2
      refine .inr (.inr (.inl ⟨a, b, xs, ys, rfl, rfl, h1, h2, by rw [r1.len, r2.len]; exact hz, fun q => ?_, fun _ q => ?_, fun _ _ p hp => ?_⟩))
      · have := r1.nil_l.mp q
        subst this
        exact k _ H W Tr.refl (.tup h2 r2)
      · have := r2.nil_l.mp q
        subst this
        rw [List.append_nil] at k
        exact k _ H W Tr.refl (.tup h1 r1)
      · have t := Tr.new (c := c) (W := W) (o := .tup (xs ++ ys)) (t := none) hp
        exact k _ _ _ t (.tup (SqT.of upd_same) ((r1.mv t.1.mv).app (r2.mv t.1.mv)))
    | _ => simp at e
  | lst s => cases v with
    | lst t =>
      obtain ⟨hz, rfl⟩ := okSz_some (show okSz (s.length + t.length) (.lst (s ++ t)) = some z from e)
      obtain ⟨a, xs, e1, h1, r1⟩ := rx.lst
      obtain ⟨b, ys, e2, h2, r2⟩ := ry.lst
      subst e1; subst e2
      refine .inr (.inr (.inr ⟨a, b, xs, ys, rfl, rfl, h1, h2, by rw [r1.len, r2.len]; exact hz, fun p hp => ?_⟩))
      have t := Tr.new (c := c) (W := W) (o := .lst (xs ++ ys)) (t := none) hp
      exact k _ _ _ t (.lst upd_same setW_same ((r1.mv t.1.mv).app (r2.mv t.1.mv)))
    | _ => simp at e
  | _ => simp at e
/-- two lists -/
theorem opsL_cat : OpSL c rCat opCat := by
  intro H W x y u v z Q rx ry e
  cases u with
  | lst s => cases v with
    | lst t =>
      obtain ⟨hz, rfl⟩ := okSz_some (show okSz (s.length + t.length) (.lst (s ++ t)) = some z from e)
      obtain ⟨a, xs, e1, h1, r1⟩ := rx.lst
      obtain ⟨b, ys, e2, h2, r2⟩ := ry.lst
      subst e1; subst e2
      refine ⟨_, rfl, fun k => ⟨a, b, xs, ys, rfl, rfl, h1, h2, by rw [r1.len, r2.len]; exact hz, fun p hp => ?_⟩⟩
      have t := Tr.new (c := c) (W := W) (o := .lst (xs ++ ys)) (t := some .tmp) hp
      exact k p _ _ _ t setW_same hp upd_same ((r1.mv t.1.mv).app (r2.mv t.1.mv))
    | _ => simp [opCat] at e
  | _ => simp [opCat] at e
theorem opCat_lst : ∀ u v z, opCat u v = some z → ∃ l, z = .lst l := by
  intro u v z e
  cases u with
  | lst s => cases v with
    | lst t => obtain ⟨hz, rfl⟩ := okSz_some (show okSz (s.length + t.length) (.lst (s ++ t)) = some z from e); exact ⟨_, rfl⟩
    | _ => simp [opCat] at e
  | _ => simp [opCat] at e
/-! ### == -/
def rEqAll : R2 := fun x y H Q => (scal x y = true ∧ Q (.bl (decide (x = y))) H) ∨ ∃ a b xs ys, x = .ref a ∧ y = .ref b ∧ H a = some (.lst xs) ∧ H b = some (.lst ys) ∧ (xs = [] ∨ ys = []) ∧ Q (.bl (decide (xs = [] ∧ ys = []))) H
def rNeAll : R2 := fun x y H Q => (scal x y = true ∧ Q (.bl (!decide (x = y))) H) ∨ ∃ a b xs ys, x = .ref a ∧ y = .ref b ∧ H a = some (.lst xs) ∧ H b = some (.lst ys) ∧ (xs = [] ∨ ys = []) ∧ Q (.bl (!decide (xs = [] ∧ ys = []))) H
theorem op_eqAll {X : Cx} (hu : X.A.units + 64 < cLine) : OpR X (compareOp .Eq) rEqAll := by
  intro pins s σ H x y v u Q I rx ry h
  rcases h with h | ⟨a, b, xs, ys, rfl, rfl, ha, hb, hn, q⟩
  · exact op_eq pins s σ H x y v u Q I rx ry h
  · cases rx
    cases ry
    obtain ⟨its, rv, ⟨o, n, p1, p2, p3, p4⟩, _⟩ := I.list (SqL.of ha)
    obtain ⟨its2, rv2, ⟨o2, n2, p5, p6, p7, p8⟩, _⟩ := I.list (SqL.of hb)
    have L1 : s.heap.IsList a its.toArray := ⟨o, p1, p2, n, p4⟩
    have L2' : s.heap.IsList b its2.toArray := ⟨o2, p5, p6, n2, p8⟩
    have l1 := rv.length
    have l2 := rv2.length
    by_cases e : xs = [] ∧ ys = []
    · obtain ⟨rfl, rfl⟩ := e
      cases rv; cases rv2
      refine PySem.SeqAt.eq_listAt (e := fun _ => true) L1 L2' rfl (by omega) (fun j h1 => by simp at h1) ⟨.bl true, H, I, ?_, by simpa using q⟩
      rfl
    · refine PySem.SeqAt.eq_list_lengthsAt L1 L2' ?_ (by omega) ⟨.bl false, H, I, rfl, by rw [decide_eq_false e] at q; exact q⟩
      simp only [bne_iff_ne, ne_eq, List.size_toArray]
      rcases hn with rfl | rfl
      · have : ys ≠ [] := fun z => e ⟨rfl, z⟩
        have : 0 < ys.length := List.length_pos_iff.mpr this
        simp at l1; omega
      · have : xs ≠ [] := fun z => e ⟨z, rfl⟩
        have : 0 < xs.length := List.length_pos_iff.mpr this
        simp at l2; omega
theorem op_neAll {X : Cx} (hu : X.A.units + 64 < cLine) : OpR X (compareOp .NotEq) rNeAll := by
  intro pins s σ H x y v u Q I rx ry h
  rcases h with h | ⟨a, b, xs, ys, rfl, rfl, ha, hb, hn, q⟩
  · exact op_ne pins s σ H x y v u Q I rx ry h
  · cases rx
    cases ry
    obtain ⟨its, rv, ⟨o, n, p1, p2, p3, p4⟩, _⟩ := I.list (SqL.of ha)
    obtain ⟨its2, rv2, ⟨o2, n2, p5, p6, p7, p8⟩, _⟩ := I.list (SqL.of hb)
    have L1 : s.heap.IsList a its.toArray := ⟨o, p1, p2, n, p4⟩
    have L2' : s.heap.IsList b its2.toArray := ⟨o2, p5, p6, n2, p8⟩
    have l1 := rv.length
    have l2 := rv2.length
    by_cases e : xs = [] ∧ ys = []
    · obtain ⟨rfl, rfl⟩ := e
      cases rv; cases rv2
      refine PySem.SeqAt.RcNeAt.lists (e := fun _ => true) L1 L2' rfl (by omega) (fun j h1 => by simp at h1) X.prog X.w X.xe _ ⟨.bl false, H, I, ?_, by simpa using q⟩
      rfl
    · refine PySem.SeqAt.RcNeAt.lists_lengths L1 L2' ?_ (by omega) X.prog X.w X.xe _ ⟨.bl true, H, I, rfl, by rw [decide_eq_false e] at q; exact q⟩
      simp only [bne_iff_ne, ne_eq, List.size_toArray]
      rcases hn with rfl | rfl
      · have : ys ≠ [] := fun z => e ⟨rfl, z⟩
        have : 0 < ys.length := List.length_pos_iff.mpr this
        simp at l1; omega
      · have : xs ≠ [] := fun z => e ⟨z, rfl⟩
        have : 0 < xs.length := List.length_pos_iff.mpr this
        simp at l2; omega
end
end SkS

namespace SkS
open PySem PySem.Spec PyProof.Rows L2 Sk
section
variable {c : Cn}
theorem txt_inj {s t : Txt} : (V.str ⟨s.toArray⟩ = V.str ⟨t.toArray⟩) ↔ s = t := by
  constructor
  · intro h
    injection h with h
    injection h with h
    exact List.toArray_inj h
  · rintro rfl; rfl
theorem eqD_scal {H : Hp} {W : Own} {x y : V} {u v : Sk.D} {b : Bool} (rx : Rv c H W x u) (ry : Rv c H W y v) (h : eqD u v = some b) :
    (scal x y = true ∧ decide (x = y) = b) ∨ ∃ a a' xs ys, x = .ref a ∧ y = .ref a' ∧ H a = some (.lst xs) ∧ H a' = some (.lst ys) ∧ (xs = [] ∨ ys = []) ∧ decide (xs = [] ∧ ys = []) = b := by
  cases u with
  | non => cases v with
    | non => cases h; rw [rx.non, ry.non]; exact .inl ⟨rfl, rfl⟩
    | int j => cases h; rw [rx.non, ry.int]; exact .inl ⟨rfl, by simp⟩
    | bl j => cases h; rw [rx.non, ry.bl]; exact .inl ⟨rfl, by simp⟩
    | str j => cases h; rw [rx.non, ry.str.1]; exact .inl ⟨rfl, by simp⟩
    | _ => cases h
  | int i => cases v with
    | non => cases h; rw [rx.int, ry.non]; exact .inl ⟨rfl, by simp⟩
    | int j => cases h; rw [rx.int, ry.int]; exact .inl ⟨rfl, by simp⟩
    | str j => cases h; rw [rx.int, ry.str.1]; exact .inl ⟨rfl, by simp⟩
    | _ => cases h
  | bl i => cases v with
    | non => cases h; rw [rx.bl, ry.non]; exact .inl ⟨rfl, by simp⟩
    | bl j => cases h; rw [rx.bl, ry.bl]; exact .inl ⟨rfl, by simp⟩
    | _ => cases h
  | str i => cases v with
    | non => cases h; rw [rx.str.1, ry.non]; exact .inl ⟨rfl, by simp⟩
    | int j => cases h; rw [rx.str.1, ry.int]; exact .inl ⟨rfl, by simp⟩
    | str j => cases h; rw [rx.str.1, ry.str.1]; exact .inl ⟨rfl, by simp only [txt_inj]⟩
    | _ => cases h
  | lst s => cases v with
    | lst t =>
      obtain ⟨a, xs, rfl, ha, r1⟩ := rx.lst
      obtain ⟨a', ys, rfl, hb, r2⟩ := ry.lst
      cases s with
      | nil => cases t with
        | nil => cases h; cases r1; cases r2; exact .inr ⟨a, a', _, _, rfl, rfl, ha, hb, .inl rfl, rfl⟩
        | cons d t => cases h; cases r1; cases r2 with | cons p q => exact .inr ⟨a, a', _, _, rfl, rfl, ha, hb, .inl rfl, by simp⟩
      | cons d s => cases t with
        | nil => cases h; cases r2; cases r1 with | cons p q => exact .inr ⟨a, a', _, _, rfl, rfl, ha, hb, .inr rfl, by simp⟩
        | cons d t => cases h
    | _ => cases s <;> cases h
  | _ => cases v <;> cases h
theorem ops_eq : OpS c rEqAll opEq := by
  intro H W x y u v z Q rx ry e k
  cases q : eqD u v with
  | none => simp [opEq, q] at e
  | some b =>
    simp [opEq, q] at e
    subst e
    rcases eqD_scal rx ry q with ⟨h1, h2⟩ | ⟨a, a', xs, ys, e1, e2, h1, h2, h3, h4⟩
    · exact .inl ⟨h1, by rw [h2]; exact k _ H W Tr.refl (.bl b)⟩
    · exact .inr ⟨a, a', xs, ys, e1, e2, h1, h2, h3, by rw [h4]; exact k _ H W Tr.refl (.bl b)⟩
theorem ops_ne : OpS c rNeAll opNe := by
  intro H W x y u v z Q rx ry e k
  cases q : eqD u v with
  | none => simp [opNe, q] at e
  | some b =>
    simp [opNe, q] at e
    subst e
    rcases eqD_scal rx ry q with ⟨h1, h2⟩ | ⟨a, a', xs, ys, e1, e2, h1, h2, h3, h4⟩
    · exact .inl ⟨h1, by rw [h2]; exact k _ H W Tr.refl (.bl (!b))⟩
    · exact .inr ⟨a, a', xs, ys, e1, e2, h1, h2, h3, by rw [h4]; exact k _ H W Tr.refl (.bl (!b))⟩
/-! ### in -/
def rInAll (K : PySem.W.Frag) (neg : Bool) : R2 := fun x y H Q => (∃ (ch : Nat) (z : Str), x = .str ⟨#[ch]⟩ ∧ y = .str z ∧ Q (.bl (if neg then !decide (ch ∈ z.cps.toList) else decide (ch ∈ z.cps.toList))) H) ∨ rIn K neg x y H Q
theorem op_inAll {X : Cx} : OpR X (compareOp .In) (rInAll X.K false) := by
  intro pins s σ H x y v u Q I rx ry h
  rcases h with h | h
  · exact op_in_sign pins s σ H x y v u Q I rx ry (by simpa using h)
  · exact op_in_seq pins s σ H x y v u Q I rx ry h
theorem op_ninAll {X : Cx} : OpR X (compareOp .NotIn) (rInAll X.K true) := by
  intro pins s σ H x y v u Q I rx ry h
  rcases h with h | h
  · exact op_notIn_sign pins s σ H x y v u Q I rx ry (by simpa using h)
  · exact op_notIn_seq pins s σ H x y v u Q I rx ry h
theorem flat_rv {H : Hp} {W : Own} {x : V} {u : Sk.D} (rx : Rv c H W x u) (h : flatD u = true) : flatV x = true := by
  cases u with
  | non => rw [rx.non]; rfl
  | int i => rw [rx.int]; rfl
  | str s => rw [rx.str.1]; rfl
  | _ => cases h
theorem same_rv {H : Hp} {W : Own} {x y : V} {u v : Sk.D} (rx : Rv c H W x u) (ry : Rv c H W y v) (h : flatD u = true) (h2 : flatD v = true) : eqV y x = sameD v u := by
  cases u with
  | non => cases v with
    | non => rw [rx.non, ry.non]; rfl
    | int j => rw [rx.non, ry.int]; rfl
    | str j => rw [rx.non, ry.str.1]; rfl
    | _ => cases h2
  | int i => cases v with
    | non => rw [rx.int, ry.non]; rfl
    | int j => rw [rx.int, ry.int]; simp [eqV, sameD, Bool.beq_eq_decide_eq]
    | str j => rw [rx.int, ry.str.1]; rfl
    | _ => cases h2
  | str i => cases v with
    | non => rw [rx.str.1, ry.non]; rfl
    | int j => rw [rx.str.1, ry.int]; rfl
    | str j =>
      rw [rx.str.1, ry.str.1]
      simp only [eqV, sameD, Bool.beq_eq_decide_eq]
      congr 1
      apply propext
      constructor
      · intro q; injection q with q; exact List.toArray_inj q
      · rintro rfl; rfl
    | _ => cases h2
  | _ => cases h
theorem flat_all {H : Hp} {W : Own} {x : V} {u : Sk.D} (rx : Rv c H W x u) (hu : flatD u = true) : ∀ {xs : List V} {l : List Sk.D}, Rps c.K c.T H W xs l → l.all flatD = true → xs.all flatV = true ∧ inV x xs = l.any fun y => sameD y u
  | _, _, .nil, _ => ⟨rfl, rfl⟩
  | _, _, .cons r t, h => by
    rw [List.all_cons, Bool.and_eq_true] at h
    obtain ⟨i1, i2⟩ := flat_all rx hu t h.2
    refine ⟨by rw [List.all_cons, flat_rv (.of r) h.1, i1]; rfl, ?_⟩
    unfold inV at i2 ⊢
    rw [List.any_cons, List.any_cons, i2, same_rv rx (.of r) hu h.1]
theorem in_rv {H : Hp} {W : Own} {x y : V} {u v : Sk.D} {b : Bool} (neg : Bool) (rx : Rv c H W x u) (ry : Rv c H W y v) (nd : ∀ kvs, v ≠ .dic kvs) (h : inD u v = some b) (Q : VK) (k : Q (.bl (if neg then !b else b)) H) : rInAll c.K neg x y H Q := by
  have seq : ∀ (l : List Sk.D), (if flatD u && l.all flatD then some (l.any fun y => sameD y u) else none) = some b → (∃ a xs, y = .ref a ∧ (SqL c.K H a xs ∨ SqT c.K H a xs) ∧ Rps c.K c.T H W xs l) → rInAll c.K neg x y H Q := by
    intro l hb ⟨a, xs, e, hs, r⟩
    split at hb
    · rename_i q
      rw [Bool.and_eq_true] at q
      cases hb
      obtain ⟨f1, f2⟩ := flat_all rx q.1 r q.2
      exact .inr ⟨a, xs, e, hs, flat_rv rx q.1, f1, by rw [f2]; exact k⟩
    · cases hb
  cases v with
  | str t =>
    cases u with
    | str s =>
      cases s with
      | nil => cases h
      | cons ch s =>
        cases s with
        | cons => cases h
        | nil =>
          cases h
          exact .inl ⟨ch, _, rx.str.1, ry.str.1, by simpa using k⟩
    | _ => cases h
  | tup l =>
    obtain ⟨a, xs, e, hs, r⟩ := ry.tup
    refine seq l ?_ ⟨a, xs, e, .inr hs, r⟩
    exact h
  | lst l =>
    obtain ⟨a, xs, e, hs, r⟩ := ry.lst
    refine seq l ?_ ⟨a, xs, e, .inl (SqL.of hs), r⟩
    exact h
  | dic kvs => exact absurd rfl (nd kvs)
  | _ => cases h
theorem ops_in : OpS c (rInAll c.K false) opInS := by
  intro H W x y u v z Q rx ry e k
  have nd : ∀ kvs, v ≠ .dic kvs := fun kvs q => by subst q; cases e
  have e2 : opIn u v = some z := by cases v <;> first | exact e | exact absurd rfl (nd _)
  cases q : inD u v with
  | none => simp [opIn, q] at e2
  | some b =>
    simp [opIn, q] at e2
    subst e2
    exact in_rv false rx ry nd q Q (k _ H W Tr.refl (.bl b))
theorem ops_nin : OpS c (rInAll c.K true) opNinS := by
  intro H W x y u v z Q rx ry e k
  have nd : ∀ kvs, v ≠ .dic kvs := fun kvs q => by subst q; cases e
  have e2 : opNin u v = some z := by cases v <;> first | exact e | exact absurd rfl (nd _)
  cases q : inD u v with
  | none => simp [opNin, q] at e2
  | some b =>
    simp [opNin, q] at e2
    subst e2
    exact in_rv true rx ry nd q Q (k _ H W Tr.refl (.bl (!b)))
/-! ### items -/
theorem ixK_eq (n : Nat) (i : Int) : ixK n i = L2.ixN n i := rfl
theorem itemK_eq {α : Type} (l : List α) (i : Int) : itemK l i = L2.atI l i := rfl
theorem Rps.item {H : Hp} {W : Own} {xs : List V} {l : List Sk.D} {i : Int} {z : Sk.D} (r : Rps c.K c.T H W xs l) (h : itemK l i = some z) : ∃ v, atI xs i = some v ∧ Rp c.K c.T H W v z := by
  unfold itemK at h
  unfold atI
  rw [ixK_eq] at h
  rw [r.len]
  cases q : ixN l.length i with
  | none => rw [q] at h; cases h
  | some j =>
    rw [q] at h
    obtain ⟨v, h1, h2⟩ := r.get h
    exact ⟨v, h1, h2⟩
theorem ops_item : OpS c (rIx c.K) opItemS := by
  intro H W x y u v z Q rx ry e k
  cases u with
  | tup l =>
    cases v with
    | int i =>
      obtain ⟨a, xs, rfl, h, r⟩ := rx.tup
      obtain ⟨w, h1, h2⟩ := r.item (show itemK l i = some z from e)
      exact .inr (.inl ⟨a, xs, i, w, rfl, ry.int, h, h1, k w H W Tr.refl h2⟩)
    | _ => cases e
  | lst l =>
    cases v with
    | int i =>
      obtain ⟨a, xs, rfl, h, r⟩ := rx.lst
      obtain ⟨w, h1, h2⟩ := r.item (show itemK l i = some z from e)
      exact .inl ⟨a, xs, i, w, rfl, ry.int, SqL.of h, h1, k w H W Tr.refl h2⟩
    | _ => cases e
  | str s =>
    cases v with
    | int i =>
      obtain ⟨e1, h1⟩ := rx.str
      have e' : (itemK s i).map (fun ch => Sk.D.str [ch]) = some z := e
      cases q : itemK s i with
      | none => rw [q] at e'; cases e'
      | some ch =>
        rw [q] at e'
        cases e'
        refine .inr (.inr ⟨_, i, ch, e1, ry.int, by rw [str_len]; exact h1, ?_, k _ H W Tr.refl (.str [ch] (by rw [sizeLine_eq]; simp))⟩)
        exact q
    | _ => cases e
  | _ => cases v <;> cases e
end
/-! ### subscripts, slices -/
section
variable {g : Cxt} {a b e : Expr} {ea eb ev : EV} {pos p2 : Pos}
theorem se_item (hK : ∀ X, g.XP X → X.K = g.cn.K) (ha : SE g a ea) (hb : SE g b eb) (hs : PlainIx b) : SE g (.Subscript a b pos) (eOp opItemS ea eb) := by
  obtain ⟨ta, pa, sa⟩ := ha
  obtain ⟨tb, pb, sb⟩ := hb
  exact ⟨_, fun X x => pe_ix (by rw [← hK X x]; exact ix_seq) (pa X x) (pb X x) hs, sem_op ops_item sa sb⟩
/-- a part of a slice -/
def SemP (c : Cn) (wx : WX) (tp : TO) (pv : PV) : Prop := ∀ (σ : L2.St) (r : Slots) (H : Hp) (W : Own) (Q : Option Int → Hp → Prop), Rel c H W σ r →
  ResOk c wx σ H W (fun o r' => ∀ H' W', Fr H W H' W' → Rel c H' W' σ r' → Q o H') (pv r) → tp σ H Q
def SP (g : Cxt) (e : Option Expr) (pv : PV) : Prop := ∃ tp, (∀ X, g.XP X → PO X e tp) ∧ SemP g.cn g.wx tp pv
theorem sp_none : SP g none pNone := ⟨_, fun X _ => po_none, fun σ r H W Q R h => h H W Fr.refl R⟩
abbrev PoP (c : Cn) (σ : L2.St) (Q : Option Int → Hp → Prop) (H : Hp) (W : Own) : Option Int → Slots → Prop := fun b r' => ∀ H' W', Fr H W H' W' → Rel c H' W' σ r' → Q b H'
theorem shP {c : Cn} {σ : L2.St} {Q : Option Int → Hp → Prop} : Shift (PoP c σ Q) := fun _ _ _ _ _ _ f h H2 W2 f2 => h H2 W2 (f.trans f2)
theorem sp_some (h : SE g e ev) : SP g (some e) (pSome ev) := by
  obtain ⟨te, pe, se⟩ := h
  refine ⟨_, fun X x => po_some (pe X x), fun σ r H W Q R h => ?_⟩
  show te σ H (fun x H1 => ∃ i, x = .int i ∧ Q (some i) H1)
  refine bindE (P := PoP g.cn σ Q) shP se R h fun x r1 v H1 W1 f1 R1 rr1 h1 => ?_
  cases x with
  | ref i => exact False.elim h1
  | d x =>
    cases x with
    | int i => cases rr1; exact ⟨i, rfl, h1 H1 W1 Fr.refl R1⟩
    | _ => exact False.elim h1
theorem bindP {β : Type} {c : Cn} {wx : WX} {σ : L2.St} {r : Slots} {H : Hp} {W : Own} {P : Hp → Own → β → Slots → Prop} {tp : TO} {pv : PV} {f : Option Int → Slots → Res β} {Q : Option Int → Hp → Prop} (sh : Shift P) (he : SemP c wx tp pv) (R : Rel c H W σ r) (h : ResOk c wx σ H W (P H W) ((pv r).bind f))
    (k : ∀ x r' H' W', Fr H W H' W' → Rel c H' W' σ r' → ResOk c wx σ H' W' (P H' W') (f x r') → Q x H') : tp σ H Q := by
  refine he σ r H W Q R ?_
  cases e : pv r with
  | ok x r1 =>
    rw [e] at h
    exact fun H1 W1 f1 R1 => k x r1 H1 W1 f1 R1 (ResOk.shift sh f1 h)
  | exc n r1 => rw [e] at h; exact h
  | bad => rw [e] at h; exact h
theorem sIx_eq (n d : Nat) (o : Option Int) : Sk.sIx n d o = HT.sIx n d o := by
  cases o with
  | none => rfl
  | some v =>
    unfold Sk.sIx HT.sIx
    by_cases h : v < 0
    · simp only [h, if_true]
    · simp only [h, if_false]
theorem cutR {c : Cn} {H : Hp} {W : Own} {xs : List V} {l : List Sk.D} (r : Rps c.K c.T H W xs l) (lo hi : Option Int) : Rps c.K c.T H W (cutV xs lo hi) (Sk.cut l lo hi) := by
  unfold cutV Sk.cut
  rw [r.len]
  simp only [sIx_eq]
  exact (r.drop _).take _
theorem cut_whole {α : Type} {l : List α} {lo hi : Option Int} (h : HT.sIx l.length 0 lo = 0 ∧ HT.sIx l.length l.length hi = l.length) : Sk.cut l lo hi = l := by
  unfold Sk.cut
  rw [sIx_eq, sIx_eq, h.1, h.2]
  simp
theorem cut_len {α : Type} (l : List α) (lo hi : Option Int) : (Sk.cut l lo hi).length ≤ l.length := by
  unfold Sk.cut
  rw [List.length_take, List.length_drop]; omega
/-- slices by kinds -/
def rSlAll (K : PySem.W.Frag) : V → Option Int → Option Int → Hp → VK → Prop := fun x lo hi H Q => rSlS x lo hi H Q ∨ rSlA K x lo hi H Q ∨ rSlL K x lo hi H Q
theorem sl_all {X : Cx} : SlR X (rSlAll X.K) := sl_str.or (sl_tupA.or sl_list)
theorem cutS_eq (s : Txt) (lo hi : Option Int) : cutS ⟨s.toArray⟩ lo hi = ⟨(Sk.cut s lo hi).toArray⟩ := by
  show (⟨(((s.toArray).toList.drop (HT.sIx (⟨s.toArray⟩ : Str).length 0 lo)).take (HT.sIx (⟨s.toArray⟩ : Str).length (⟨s.toArray⟩ : Str).length hi - HT.sIx (⟨s.toArray⟩ : Str).length 0 lo)).toArray⟩ : Str) = _
  rw [str_len]
  unfold Sk.cut
  rw [sIx_eq, sIx_eq]
theorem se_slice {lo hi : Option Expr} {pl ph : PV} (hK : ∀ X, g.XP X → X.K = g.cn.K) (ha : SE g a ea) (hl : SP g lo pl) (hh : SP g hi ph) : SE g (.Subscript a (.Slice lo hi none p2) pos) (eSlice ea pl ph) := by
  obtain ⟨ta, pa, sa⟩ := ha
  obtain ⟨tl, pl', sl⟩ := hl
  obtain ⟨th, ph', sh⟩ := hh
  refine ⟨tSl (rSlAll g.cn.K) ta tl th, fun X x => pe_slice (by rw [← hK X x]; exact sl_all) (pa X x) (pl' X x) (ph' X x), fun σ r H W Q R h => ?_⟩
  show ta σ H (fun x H1 => tl σ H1 fun l H2 => th σ H2 fun u H3 => rSlAll g.cn.K x l u H3 Q)
  refine bindE (P := PoE g.cn σ Q) shE sa R h fun x r1 v H1 W1 f1 R1 rr1 h1 => ?_
  refine bindP (P := PoE g.cn σ Q) shE sl R1 h1 fun lo' r2 H2 W2 f2 R2 h2 => ?_
  refine bindP (P := PoE g.cn σ Q) shE sh R2 h2 fun hi' r3 H3 W3 f3 R3 h3 => ?_
  cases ex : x.val r3 with
  | none => rw [ex] at h3; exact False.elim h3
  | some u =>
    rw [ex] at h3
    have rv := (rr1.mv (f2.trans f3)).rv R3 ex
    cases u with
    | str s =>
      obtain ⟨e1, hz⟩ := rv.str
      refine .inl ⟨_, e1, by rw [str_len]; exact hz, ?_⟩
      rw [cutS_eq]
      exact h3 _ H3 W3 Fr.refl R3 (.str _ (Nat.le_trans (cut_len s _ _) hz))
    | tup l =>
      obtain ⟨b', xs, e1, hs, rs⟩ := rv.tup
      subst e1
      refine .inr (.inl ⟨b', xs, rfl, hs, fun q => ?_, fun _ p hp => ?_⟩)
      · have e : Sk.cut l lo' hi' = l := cut_whole (by rw [← rs.len]; exact q)
        refine h3 _ H3 W3 Fr.refl R3 ?_
        rw [e]
        exact .tup hs rs
      · have t := Tr.new (c := g.cn) (W := W3) (o := .tup (cutV xs lo' hi')) (t := none) hp
        exact h3 _ _ _ t.1 (t.2 σ r3 R3) (.tup (SqT.of upd_same) ((cutR rs lo' hi').mv t.1.mv))
    | lst l =>
      obtain ⟨b', xs, e1, hs, rs⟩ := rv.lst
      subst e1
      refine .inr (.inr ⟨b', xs, rfl, SqL.of hs, fun p hp => ?_⟩)
      have t := Tr.new (c := g.cn) (W := W3) (o := .lst (cutV xs lo' hi')) (t := none) hp
      exact h3 _ _ _ t.1 (t.2 σ r3 R3) (.lst upd_same setW_same ((cutR rs lo' hi').mv t.1.mv))
    | _ => exact False.elim h3
end
end SkS

namespace SkS
open PySem PySem.Spec PyProof.Rows L2 Sk
/-- the contexts of g are as g says -/
def Cxt.B (g : Cxt) : Prop := ∀ X, g.XP X → g.Bas X
def Cxt.R (g : Cxt) : Prop := ∀ X, g.XP X → g.Run X
/-- what is wished of an exception does not hang on the slots -/
def Cxt.Flat (g : Cxt) : Prop := ∃ E : XK, g.wx = fun cls d _ H => E cls d H
section
variable {g : Cxt} {a b e : Expr} {es : List Expr} {ea eb ev : EV} {av : AV} {pos p : Pos}
theorem Cxt.B.K (h : g.B) : ∀ X, g.XP X → X.K = g.cn.K := fun X x => (h X x).K
theorem Cxt.B.gl (h : g.B) {x : Str} (e : g.sc.names.lookup x = some .globalImplicit) : ∀ X, g.XP X → Gl X x := fun X hx => by
  show X.env.scope.names.lookup x = _
  rw [(h X hx).sc]; exact e
theorem Cxt.R.un (h : g.R) : ∀ X, g.XP X → X.A.units + 64 < cLine := fun X x => (h X x).room.units
/-! ### constants, names -/
theorem sem_c {te : TE} {v : V} {x : Sk.D} (ht : ∀ σ H Q, Q v H → te σ H Q) (rp : ∀ H W, Rp g.cn.K g.cn.T H W v x) : SemE g.cn g.wx te (eC x) := fun σ r H W Q R h => ht σ H Q (h v H W Fr.refl R (rp H W))
theorem se_int {i : Int} {j : Nat} : SE g (.Constant (.int i) j pos) (eC (.int i)) := ⟨_, fun X _ => pe_int, sem_c (v := .int i) (fun _ _ _ h => h) fun _ _ => .int i⟩
theorem se_bl {i : Bool} {j : Nat} : SE g (.Constant (.bool i) j pos) (eC (.bl i)) := ⟨_, fun X _ => pe_bl, sem_c (v := .bl i) (fun _ _ _ h => h) fun _ _ => .bl i⟩
theorem se_non {j : Nat} : SE g (.Constant .none j pos) (eC .non) := ⟨_, fun X _ => pe_non, sem_c (v := .non) (fun _ _ _ h => h) fun _ _ => .non⟩
theorem se_str {s : Str} {l : Txt} {j : Nat} (h : s.cps.toList = l) (hl : l.length ≤ 16777216) : SE g (.Constant (.str s) j pos) (eC (.str l)) := by
  refine ⟨_, fun X _ => pe_str, sem_c (v := .str s) (fun _ _ _ h => h) fun _ _ => ?_⟩
  obtain ⟨⟨l'⟩⟩ := s
  subst h
  exact .str l' (by rw [sizeLine_eq]; exact hl)
theorem se_var {i : Nat} {x : Str} (hB : g.B) (hN : g.N[i]? = some x) (hv : Vis g.sc x) (hd : (x == ("__debug__" : Str)) = false := by decide) (hcd : (x == ("__classdict__" : Str)) = false := by decide) : SE g (.Name x pos) (eVar i) := by
  refine ⟨tVar i, fun X hx => pe_var (by rw [(hB X hx).N]; exact hN) (by rw [(hB X hx).sc]; exact hv) hd hcd, fun σ r H W Q R h => ?_⟩
  unfold eVar at h
  cases q : at_ r i with
  | un => rw [q] at h; exact False.elim h
  | err n => rw [q] at h; exact False.elim h
  | d x =>
    rw [q] at h
    obtain ⟨v, es, rv⟩ := R.slot i _ (at_some q fun z => by cases z)
    exact ⟨v, es, h v H W Fr.refl R rv⟩
  | own b l =>
    rw [q] at h
    obtain ⟨ad, xs, es, _⟩ := R.slot i _ (at_some q fun z => by cases z)
    exact ⟨_, es, h _ H W Fr.refl R es⟩
  | ins b n fs =>
    rw [q] at h
    obtain ⟨ad, C, dx, vs, es, _⟩ := R.slot i _ (at_some q fun z => by cases z)
    exact ⟨_, es, h _ H W Fr.refl R es⟩
/-- a list of one's own becomes a plain value -/
theorem Rel.frz {c : Cn} {σ : L2.St} {r : Slots} {H : Hp} {W : Own} {i : Nat} {l : List Sk.D} (R : Rel c H W σ r) (e : r[i]? = some (.own false l)) :
    ∃ a, σ[i]? = some (some (.ref a)) ∧ Fr H W H (setW W a none) ∧ Rel c H (setW W a none) σ (r.set i (.d (.lst l))) ∧ Rp c.K c.T H (setW W a none) (.ref a) (.lst l) := by
  obtain ⟨a, xs, es, w, hx, rx, bo⟩ := R.slot i _ e
  have h0 : c.H0 a = none := by unfold Bor at bo; rw [if_neg Bool.false_ne_true] at bo; exact bo
  have mv : Mv H W H (setW W a none) := ⟨fun b o q k => ⟨q, by
    by_cases z : b = a
    · rw [z, setW_same]
    · rw [setW_ne z]; exact k⟩, fun _ _ q => q, fun _ _ _ q => q⟩
  have rp : Rp c.K c.T H (setW W a none) (.ref a) (.lst l) := .lst hx setW_same (rx.mv mv)
  refine ⟨a, es, Fr.retag (by rw [w]; exact fun z => by cases z) (by rw [w]; exact fun z => by cases z) (by rw [w]; exact fun z => by cases z), ⟨by rw [List.length_set, R.len], fun j x ej => ?_, fun z q => ⟨(R.old z q).1, ?_⟩, by rw [List.length_set]; exact R.tk.none⟩, rp⟩
  · by_cases hj : j = i
    · subst hj
      obtain rfl := getElem?_set_self' ej
      exact ⟨_, es, rp⟩
    · rw [List.getElem?_set_ne (Ne.symm hj)] at ej
      refine (R.slot j x ej).mv mv (fun z u wz q => ⟨q, ?_⟩) fun z zs n wz q => ⟨q, ?_⟩
      · rw [setW_ne fun y => by subst y; rw [w] at wz; cases wz; exact hj rfl]; exact wz
      · rw [setW_ne fun y => by subst y; rw [w] at wz; cases wz]; exact wz
  · rw [setW_ne fun y => by subst y; exact q h0]
    exact (R.old z q).2
theorem se_frz {i : Nat} {x : Str} (hB : g.B) (hN : g.N[i]? = some x) (hv : Vis g.sc x) (hd : (x == ("__debug__" : Str)) = false := by decide) (hcd : (x == ("__classdict__" : Str)) = false := by decide) : SE g (.Name x pos) (eFrz i) := by
  refine ⟨tVar i, fun X hx => pe_var (by rw [(hB X hx).N]; exact hN) (by rw [(hB X hx).sc]; exact hv) hd hcd, fun σ r H W Q R h => ?_⟩
  unfold eFrz at h
  cases q : at_ r i with
  | un => rw [q] at h; exact False.elim h
  | err n => rw [q] at h; exact False.elim h
  | ins b n fs => rw [q] at h; exact False.elim h
  | d x =>
    rw [q] at h
    obtain ⟨v, es, rv⟩ := R.slot i _ (at_some q fun z => by cases z)
    exact ⟨v, es, h v H W Fr.refl R rv⟩
  | own b l =>
    rw [q] at h
    cases b with
    | true => exact False.elim h
    | false =>
      obtain ⟨ad, es, f, R2, rp⟩ := R.frz (at_some q fun z => by cases z)
      exact ⟨_, es, h _ H _ f R2 rp⟩
/-! ### arguments, displays -/
theorem sa_nil : SA g [] aNil := ⟨_, fun X _ => pa_nil, fun σ r H W Q R h => h [] H W Fr.refl R .nil⟩
theorem sa_cons (h1 : SE g e ev) (h2 : SA g es av) (hs : ∀ X, g.XP X → starEach (e :: es) X.env = (false, eval e X.env) :: starEach es X.env := by intros; rfl) : SA g (e :: es) (aCons ev av) := by
  obtain ⟨te, pe, se⟩ := h1
  obtain ⟨ta, pa, sa⟩ := h2
  refine ⟨tCons te ta, fun X x => pa_cons (pe X x) (pa X x) (hs X x), fun σ r H W Q R h => ?_⟩
  show te σ H (fun x H1 => ta σ H1 fun xs H2 => Q (x :: xs) H2)
  refine bindE (P := PoA g.cn σ Q) shA se R h fun x r1 v H1 W1 f1 R1 rr1 h1 => ?_
  refine bindA (P := PoA g.cn σ Q) shA sa R1 h1 fun xs r2 vs H2 W2 f2 R2 rr2 h2 => ?_
  exact h2 (v :: vs) H2 W2 Fr.refl R2 (.cons (rr1.mv f2) rr2)
theorem datas_rps {c : Cn} {H : Hp} {W : Own} {σ : L2.St} : ∀ {vs : List V} {xs : List R} {l : List Sk.D}, Paired (RR c H W σ) vs xs → datas xs = some l → Rps c.K c.T H W vs l
  | _, _, _, .nil, e => by cases e; exact .nil
  | _, .d x :: xs, l, .cons r t, e => by
    have e1 : (datas xs).map (x :: ·) = some l := e
    cases q : datas xs with
    | none => rw [q] at e1; cases e1
    | some l' => rw [q] at e1; cases e1; exact .cons r (datas_rps t q)
  | _, .ref i :: xs, l, .cons r t, e => by cases e
theorem se_tup {k : Nat} (h : SA g es av) : SE g (.Tuple es k pos) (eTup av) := by
  obtain ⟨ta, pa, sa⟩ := h
  refine ⟨tTup ta, fun X x => pe_tup (pa X x), fun σ r H W Q R h => ?_⟩
  show ta σ H (fun xs H1 => xs.length ≤ sizeLine ∧ ∀ p, H1 p = none → Q (.ref p) (upd H1 p (.tup xs)))
  refine bindA (P := PoE g.cn σ Q) shE sa R h fun xs r1 vs H1 W1 f1 R1 rr1 h1 => ?_
  cases q : datas xs with
  | none => rw [q] at h1; exact False.elim h1
  | some l =>
    rw [q] at h1
    have rs := datas_rps rr1 q
    simp only at h1
    split at h1
    · rename_i hz
      refine ⟨by rw [rs.len, ← line_eq]; exact hz, fun p hp => ?_⟩
      have t := Tr.new (c := g.cn) (W := W1) (o := .tup vs) (t := none) hp
      exact h1 _ _ _ t.1 (t.2 σ r1 R1) (.tup (SqT.of upd_same) (rs.mv t.1.mv))
    · exact False.elim h1
theorem sl_lst (h : SA g es av) : SL g (.List es pos) (eLst av) := by
  obtain ⟨ta, pa, sa⟩ := h
  refine ⟨tLst ta, fun X x => pe_lst (pa X x), fun σ r H W Q R h => ?_, fun r x r' e => ?_⟩
  · show ta σ H (fun xs H1 => xs.length ≤ sizeLine ∧ ∀ p, H1 p = none → Q (.ref p) (upd H1 p (.lst xs)))
    refine bindA (P := PoL g.cn σ Q) shL sa R h fun xs r1 vs H1 W1 f1 R1 rr1 h1 => ?_
    cases q : datas xs with
    | none => rw [q] at h1; exact False.elim h1
    | some l =>
      rw [q] at h1
      have rs := datas_rps rr1 q
      simp only at h1
      split at h1
      · rename_i hz
        refine ⟨by rw [rs.len, ← line_eq]; exact hz, fun p hp => ?_⟩
        have t := Tr.new (c := g.cn) (W := W1) (o := .lst vs) (t := some .tmp) hp
        exact h1 l rfl p vs _ _ t.1 (t.2 σ r1 R1) setW_same hp upd_same (rs.mv t.1.mv)
      · exact False.elim h1
  · unfold eLst at e
    cases q1 : av r with
    | bad => rw [q1] at e; cases e
    | exc n q => rw [q1] at e; cases e
    | ok xs r1 =>
      rw [q1] at e
      simp only [Res.bind_ok] at e
      cases q : datas xs with
      | none => rw [q] at e; cases e
      | some l =>
        rw [q] at e
        simp only at e
        split at e
        · cases e; exact ⟨l, rfl⟩
        · cases e
/-! ### and, or, not, if -/
theorem sem_tst_bl {tt : TT} {tv : TV} (f : Bool → Bool) (st : SemT g.cn g.wx tt tv) : SemT g.cn g.wx (fun σ H Q => tt σ H fun b H1 => Q (f b) H1) (fun r => (tv r).bind fun b r1 => .ok (f b) r1) := by
  intro σ r H W Q R h
  show tt σ H (fun b H1 => Q (f b) H1)
  exact bindT (P := PoT g.cn σ Q) shT st R h fun b r1 H1 W1 f1 R1 h1 => h1 H1 W1 Fr.refl R1
theorem tst_not : tst (eNot ea) = fun r => (tst ea r).bind fun b r1 => .ok (!b) r1 := by
  funext r
  show ((tst ea r).bind fun c r1 => Res.ok (Sk.R.d (.bl (!c))) r1).bind _ = _
  cases tst ea r <;> rfl
theorem st_not (h : STt g a ea) : STt g (.UnaryOp .Not a pos) (eNot ea) := by
  obtain ⟨tt, pt, st⟩ := h
  refine ⟨tNot tt, fun X x => pt_not (pt X x), ?_⟩
  rw [tst_not]
  exact sem_tst_bl (fun b => !b) st
theorem tst_and : tst (eAnd ea eb) = fun r => (tst ea r).bind fun c r1 => if c then tst eb r1 else .ok false r1 := by
  funext r
  unfold eAnd
  show ((tst ea r).bind fun c r1 => if c = true then (tst eb r1).bind (fun d r2 => Res.ok (Sk.R.d (.bl d)) r2) else Res.ok (Sk.R.d (.bl false)) r1).bind _ = _
  cases tst ea r with
  | bad => rfl
  | exc n q => rfl
  | ok c r1 =>
    cases c with
    | false => rfl
    | true =>
      show ((tst eb r1).bind (fun d r2 => Res.ok (Sk.R.d (.bl d)) r2)).bind _ = tst eb r1
      cases tst eb r1 <;> rfl
theorem tst_or : tst (eOr ea eb) = fun r => (tst ea r).bind fun c r1 => if c then .ok true r1 else tst eb r1 := by
  funext r
  unfold eOr
  show ((tst ea r).bind fun c r1 => if c = true then Res.ok (Sk.R.d (.bl true)) r1 else (tst eb r1).bind (fun d r2 => Res.ok (Sk.R.d (.bl d)) r2)).bind _ = _
  cases tst ea r with
  | bad => rfl
  | exc n q => rfl
  | ok c r1 =>
    cases c with
    | true => rfl
    | false =>
      show ((tst eb r1).bind (fun d r2 => Res.ok (Sk.R.d (.bl d)) r2)).bind _ = tst eb r1
      cases tst eb r1 <;> rfl
theorem spw_and1 (h : STt g a ea) : SPw g (.BoolOp .And [a] pos) ea := by
  obtain ⟨tt, pt, st⟩ := h
  exact ⟨tt, fun X x => pw_and1 (pt X x), st⟩
theorem spw_or1 (h : STt g a ea) : SPw g (.BoolOp .Or [a] pos) ea := by
  obtain ⟨tt, pt, st⟩ := h
  exact ⟨tt, fun X x => pw_or1 (pt X x), st⟩
theorem spw_and (h : STt g a ea) (h2 : SPw g (.BoolOp .And (b :: es) pos) eb) : SPw g (.BoolOp .And (a :: b :: es) pos) (eAnd ea eb) := by
  obtain ⟨ta, pa, sa⟩ := h
  obtain ⟨tb, pb, sb⟩ := h2
  refine ⟨tAnd ta tb, fun X x => pw_and (pa X x) (pb X x), ?_⟩
  rw [tst_and]
  intro σ r H W Q R h
  show ta σ H (fun c H1 => if c = true then tb σ H1 Q else Q false H1)
  refine bindT (P := PoT g.cn σ Q) shT sa R h fun c r1 H1 W1 f1 R1 h1 => ?_
  cases c with
  | true => exact sb σ r1 H1 W1 Q R1 h1
  | false => exact h1 H1 W1 Fr.refl R1
theorem spw_or (h : STt g a ea) (h2 : SPw g (.BoolOp .Or (b :: es) pos) eb) : SPw g (.BoolOp .Or (a :: b :: es) pos) (eOr ea eb) := by
  obtain ⟨ta, pa, sa⟩ := h
  obtain ⟨tb, pb, sb⟩ := h2
  refine ⟨tOr ta tb, fun X x => pw_or (pa X x) (pb X x), ?_⟩
  rw [tst_or]
  intro σ r H W Q R h
  show ta σ H (fun c H1 => if c = true then Q true H1 else tb σ H1 Q)
  refine bindT (P := PoT g.cn σ Q) shT sa R h fun c r1 H1 W1 f1 R1 h1 => ?_
  cases c with
  | true => exact h1 H1 W1 Fr.refl R1
  | false => exact sb σ r1 H1 W1 Q R1 h1
theorem st_of_pw (h : SPw g e ev) : STt g e ev := by
  obtain ⟨tt, pt, st⟩ := h
  exact ⟨tt, fun X x => (pt X x).pt, st⟩
/-- .. as values -/
theorem se_not (h : SE g a ea) : SE g (.UnaryOp .Not a pos) (eNot ea) := by
  obtain ⟨te, pe, se⟩ := h
  refine ⟨tNotV te, fun X x => pe_not (pe X x), fun σ r H W Q R h => ?_⟩
  show te σ H (fun x H1 => ∃ c, x = .bl c ∧ Q (.bl (!c)) H1)
  have h : ResOk g.cn g.wx σ H W (PoE g.cn σ Q H W) (((ea r).bind fun x r1 => match x with
    | .d (.bl b) => Res.ok b r1
    | _ => .bad).bind fun c r1 => Res.ok (Sk.R.d (.bl (!c))) r1) := h
  refine se σ r H W _ R ?_
  cases q : ea r with
  | bad => rw [q] at h; exact h
  | exc n q' => rw [q] at h; exact h
  | ok x r1 =>
    rw [q] at h
    intro v H1 W1 f1 R1 rr1
    cases x with
    | ref i => exact False.elim h
    | d x =>
      cases x with
      | bl b => cases rr1; exact ⟨b, rfl, h _ H1 W1 f1 R1 (.bl _)⟩
      | _ => exact False.elim h
theorem Res.bind_assoc {α β γ : Type} (x : Res α) (f : α → Slots → Res β) (k : β → Slots → Res γ) : (x.bind f).bind k = x.bind fun a r => (f a r).bind k := by cases x <;> rfl
abbrev asB : R → Slots → Res Bool := fun x r1 => match x with
  | .d (.bl b) => .ok b r1
  | _ => .bad
theorem tst_eq : tst ea = fun r => (ea r).bind asB := rfl
theorem se_one {bo : BoolOp} (h : SE g a ea) : SE g (.BoolOp bo [a] pos) ea := by
  obtain ⟨te, pe, se⟩ := h
  exact ⟨te, fun X x => pe_one (pe X x), se⟩
theorem rr_bl {c : Cn} {H : Hp} {W : Own} {σ : L2.St} {v : V} {x : R} {b : Bool} {r r' : Slots} (h : RR c H W σ v x) (e : asB x r = .ok b r') : v = .bl b := by
  cases x with
  | ref i => cases e
  | d x => cases x <;> cases e; cases h; rfl
theorem se_and (h : SE g a ea) (h2 : SE g (.BoolOp .And (b :: es) pos) eb) : SE g (.BoolOp .And (a :: b :: es) pos) (eAnd ea eb) := by
  obtain ⟨ta, pa, sa⟩ := h
  obtain ⟨tb, pb, sb⟩ := h2
  refine ⟨tAndV ta tb, fun X x => pe_and (pa X x) (pb X x), fun σ r H W Q R h => ?_⟩
  show ta σ H (fun x H1 => ∃ c, x = .bl c ∧ if c = true then tb σ H1 Q else Q (.bl false) H1)
  unfold eAnd at h
  rw [tst_eq, Res.bind_assoc] at h
  refine bindE (P := PoE g.cn σ Q) shE sa R h fun x r1 v H1 W1 f1 R1 rr1 h1 => ?_
  cases q : asB x r1 with
  | bad => rw [q] at h1; exact False.elim h1
  | exc n q' => rw [q] at h1; cases x with
    | ref i => cases q
    | d x => cases x <;> cases q
  | ok c r1' =>
    have hv := rr_bl rr1 q
    have er : r1' = r1 := by
      cases x with
      | ref i => cases q
      | d x => cases x <;> cases q; rfl
    subst er
    rw [q] at h1
    simp only [Res.bind_ok] at h1
    refine ⟨c, hv, ?_⟩
    cases c with
    | false => exact h1 _ H1 W1 Fr.refl R1 (.bl false)
    | true =>
      have h1 : ResOk g.cn g.wx σ H1 W1 (PoE g.cn σ Q H1 W1) ((tst eb r1').bind fun d r2 => Res.ok (Sk.R.d (.bl d)) r2) := h1
      rw [tst_eq, Res.bind_assoc] at h1
      show tb σ H1 Q
      refine bindE (P := PoE g.cn σ Q) shE sb R1 h1 fun y r2 w H2 W2 f2 R2 rr2 h2 => ?_
      cases q2 : asB y r2 with
      | bad => rw [q2] at h2; exact False.elim h2
      | exc n q' => cases y with
        | ref i => cases q2
        | d x => cases x <;> cases q2
      | ok d r2' =>
        have hw := rr_bl rr2 q2
        have er : r2' = r2 := by
          cases y with
          | ref i => cases q2
          | d x => cases x <;> cases q2; rfl
        subst er
        rw [q2] at h2
        subst hw
        exact h2 _ H2 W2 Fr.refl R2 (.bl d)
theorem se_or (h : SE g a ea) (h2 : SE g (.BoolOp .Or (b :: es) pos) eb) : SE g (.BoolOp .Or (a :: b :: es) pos) (eOr ea eb) := by
  obtain ⟨ta, pa, sa⟩ := h
  obtain ⟨tb, pb, sb⟩ := h2
  refine ⟨tOrV ta tb, fun X x => pe_or (pa X x) (pb X x), fun σ r H W Q R h => ?_⟩
  show ta σ H (fun x H1 => ∃ c, x = .bl c ∧ if c = true then Q (.bl true) H1 else tb σ H1 Q)
  unfold eOr at h
  rw [tst_eq, Res.bind_assoc] at h
  refine bindE (P := PoE g.cn σ Q) shE sa R h fun x r1 v H1 W1 f1 R1 rr1 h1 => ?_
  cases q : asB x r1 with
  | bad => rw [q] at h1; exact False.elim h1
  | exc n q' => rw [q] at h1; cases x with
    | ref i => cases q
    | d x => cases x <;> cases q
  | ok c r1' =>
    have hv := rr_bl rr1 q
    have er : r1' = r1 := by
      cases x with
      | ref i => cases q
      | d x => cases x <;> cases q; rfl
    subst er
    rw [q] at h1
    simp only [Res.bind_ok] at h1
    refine ⟨c, hv, ?_⟩
    cases c with
    | true => exact h1 _ H1 W1 Fr.refl R1 (.bl true)
    | false =>
      have h1 : ResOk g.cn g.wx σ H1 W1 (PoE g.cn σ Q H1 W1) ((tst eb r1').bind fun d r2 => Res.ok (Sk.R.d (.bl d)) r2) := h1
      rw [tst_eq, Res.bind_assoc] at h1
      show tb σ H1 Q
      refine bindE (P := PoE g.cn σ Q) shE sb R1 h1 fun y r2 w H2 W2 f2 R2 rr2 h2 => ?_
      cases q2 : asB y r2 with
      | bad => rw [q2] at h2; exact False.elim h2
      | exc n q' => cases y with
        | ref i => cases q2
        | d x => cases x <;> cases q2
      | ok d r2' =>
        have hw := rr_bl rr2 q2
        have er : r2' = r2 := by
          cases y with
          | ref i => cases q2
          | d x => cases x <;> cases q2; rfl
        subst er
        rw [q2] at h2
        subst hw
        exact h2 _ H2 W2 Fr.refl R2 (.bl d)
theorem se_if {t : Expr} {et : EV} (ht : STt g t et) (h : SE g a ea) (h2 : SE g b eb) : SE g (.IfExp t a b pos) (eIf et ea eb) := by
  obtain ⟨tt, pt, st⟩ := ht
  obtain ⟨ta, pa, sa⟩ := h
  obtain ⟨tb, pb, sb⟩ := h2
  refine ⟨tIf tt ta tb, fun X x => pe_ifExp (pt X x) (pa X x) (pb X x), fun σ r H W Q R h => ?_⟩
  show tt σ H (fun c H1 => if c = true then ta σ H1 Q else tb σ H1 Q)
  refine bindT (P := PoE g.cn σ Q) shE st R h fun c r1 H1 W1 f1 R1 h1 => ?_
  cases c with
  | true => exact sa σ r1 H1 W1 Q R1 h1
  | false => exact sb σ r1 H1 W1 Q R1 h1
end
end SkS

namespace SkS
open PySem PySem.Spec PyProof.Rows L2 Sk
section
variable {g : Cxt} {a b e d : Expr} {es : List Expr} {ea eb ec ev : EV} {av : AV} {pos p apos : Pos}
/-! ### operators, put together -/
theorem se_add (hB : g.B) (ha : SE g a ea) (hb : SE g b eb) : SE g (.BinOp a .Add b pos) (eOp opAdd ea eb) := se_op (fun X x => by rw [← hB.K X x]; exact op_addAll) ops_add ha hb
theorem se_sub (ha : SE g a ea) (hb : SE g b eb) : SE g (.BinOp a .Sub b pos) (eOp opSub ea eb) := se_op (fun X x => op_sub) ops_sub ha hb
theorem se_mul (ha : SE g a ea) (hb : SE g b eb) : SE g (.BinOp a .Mult b pos) (eOp opMul ea eb) := se_op (fun X x => op_mul) ops_mul ha hb
theorem se_div (ha : SE g a ea) (hb : SE g b eb) : SE g (.BinOp a .FloorDiv b pos) (eOp opDiv ea eb) := se_op (fun X x => op_fdiv) ops_div ha hb
theorem se_mod (ha : SE g a ea) (hb : SE g b eb) : SE g (.BinOp a .Mod b pos) (eOp opMod ea eb) := se_op (fun X x => op_mod) ops_mod ha hb
theorem sl_cat (ha : SE g a ea) (hb : SE g b eb) : SL g (.BinOp a .Add b pos) (eOp opCat ea eb) := by
  obtain ⟨ta, pa, sa⟩ := ha
  obtain ⟨tb, pb, sb⟩ := hb
  exact ⟨_, fun X x => pe_op op_cat (pa X x) (pb X x), sem_opL opsL_cat sa sb, eOp_lst opCat_lst⟩
/-- the comparisons: a rule, an operation -/
structure CmpRule (g : Cxt) (co : CmpOp) (op : Op2) : Prop where
  ex : ∃ rr, (∀ X, g.XP X → OpR X (compareOp co) rr) ∧ OpS g.cn rr op
theorem cr_lt : CmpRule g .Lt opLt := ⟨_, fun X _ => op_lt, ops_lt⟩
theorem cr_le : CmpRule g .LtE opLe := ⟨_, fun X _ => op_le, ops_le⟩
theorem cr_gt : CmpRule g .Gt opGt := ⟨_, fun X _ => op_gt, ops_gt⟩
theorem cr_ge : CmpRule g .GtE opGe := ⟨_, fun X _ => op_ge, ops_ge⟩
theorem cr_eq (hR : g.R) : CmpRule g .Eq opEq := ⟨_, fun X x => op_eqAll (hR.un X x), ops_eq⟩
theorem cr_ne (hR : g.R) : CmpRule g .NotEq opNe := ⟨_, fun X x => op_neAll (hR.un X x), ops_ne⟩
theorem cr_in (hB : g.B) : CmpRule g .In opInS := ⟨_, fun X x => by rw [← hB.K X x]; exact op_inAll, ops_in⟩
theorem cr_nin (hB : g.B) : CmpRule g .NotIn opNinS := ⟨_, fun X x => by rw [← hB.K X x]; exact op_ninAll, ops_nin⟩
theorem se_cp {co : CmpOp} {op : Op2} (h : CmpRule g co op) (ha : SE g a ea) (hb : SE g b eb) (hm : behindInMarks co b = false) : SE g (.Compare a [co] [b] pos) (eOp op ea eb) := by
  obtain ⟨rr, h1, h2⟩ := h.ex
  exact se_cmp h1 h2 ha hb hm
theorem st_cp {co : CmpOp} {op : Op2} (h : CmpRule g co op) (ha : SE g a ea) (hb : SE g b eb) (hm : behindInMarks co b = false) : STt g (.Compare a [co] [b] pos) (eOp op ea eb) := by
  obtain ⟨rr, h1, h2⟩ := h.ex
  exact st_cmp h1 h2 ha hb hm
/-- x is None -/
theorem isN_rv {c : Cn} {H : Hp} {W : Own} {x : V} {u : Sk.D} {z : Sk.D} (rx : Rv c H W x u) (h : opIsN u = some z) : z = .bl (decide (x = .non)) := by
  cases u with
  | non => cases h; rw [rx.non]; rfl
  | bl i => cases h; rw [rx.bl]; rfl
  | int i => cases h; rw [rx.int]; rfl
  | str i => cases h; rw [rx.str.1]; rfl
  | tup l => cases h; obtain ⟨_, _, e, _⟩ := rx.tup; rw [e]; rfl
  | lst l => cases h; obtain ⟨_, _, e, _⟩ := rx.lst; rw [e]; rfl
  | obj n fs => cases h; cases rx with | of r => cases r; rfl
  | dic kvs => cases h; cases rx with | of r => cases r; rfl
  | scr l => cases h
theorem sem_op1 {te : TE} {tw : TE → TE} {op : Op1} (sa : SemE g.cn g.wx te ea) (k : ∀ σ H (Q : VK), tw te σ H Q = te σ H fun x H1 => tw (fun _ _ Q' => Q' x H1) σ H1 Q)
    (hs : ∀ (σ : L2.St) (H : Hp) (W : Own) (x : V) (u z : Sk.D) (Q : VK), Rv g.cn H W x u → op u = some z → (∀ w H' W', Tr g.cn H W H' W' → Rp g.cn.K g.cn.T H' W' w z → Q w H') → tw (fun _ _ Q' => Q' x H) σ H Q) : SemE g.cn g.wx (tw te) (eOp1 op ea) := by
  intro σ r H W Q R h
  rw [k]
  refine bindE (P := PoE g.cn σ Q) shE sa R h fun x r1 v H1 W1 f1 R1 rr1 h1 => ?_
  cases ex : x.val r1 with
  | none => rw [ex] at h1; exact False.elim h1
  | some u =>
    rw [ex] at h1
    simp only [Option.bind_some] at h1
    cases eo : op u with
    | none => rw [eo] at h1; exact False.elim h1
    | some z =>
      rw [eo] at h1
      exact hs σ H1 W1 v u z Q (rr1.rv R1 ex) eo fun w H2 W2 t2 rp => h1 w H2 W2 t2.1 (t2.2 σ r1 R1) rp
theorem sem_isN {te : TE} (sa : SemE g.cn g.wx te ea) : SemE g.cn g.wx (tIsN te) (eOp1 opIsN ea) :=
  sem_op1 (tw := tIsN) sa (fun _ _ _ => rfl) fun σ H W x u z Q rx e k => by
    have := isN_rv rx e
    subst this
    exact k _ H W Tr.refl (.bl _)
theorem sem_notN {te : TE} (sa : SemE g.cn g.wx te ea) : SemE g.cn g.wx (tNotN te) (eOp1 opNotN ea) :=
  sem_op1 (tw := tNotN) sa (fun _ _ _ => rfl) fun σ H W x u z Q rx e k => by
    have e : ((opIsN u).bind fun
      | .bl b => some (Sk.D.bl (!b))
      | _ => none) = some z := e
    cases q : opIsN u with
    | none => rw [q] at e; cases e
    | some y =>
      have := isN_rv rx q
      subst this
      rw [q] at e
      cases e
      exact k _ H W Tr.refl (.bl _)
theorem se_isN {j : Nat} {p2 : Pos} (ha : SE g a ea) : SE g (.Compare a [.Is] [.Constant .none j p2] pos) (eOp1 opIsN ea) := by
  obtain ⟨te, pe, se⟩ := ha
  exact ⟨tIsN te, fun X x => pe_cmp (pc_isN (pe X x)) rfl, sem_isN se⟩
theorem se_notN {j : Nat} {p2 : Pos} (ha : SE g a ea) : SE g (.Compare a [.IsNot] [.Constant .none j p2] pos) (eOp1 opNotN ea) := by
  obtain ⟨te, pe, se⟩ := ha
  exact ⟨tNotN te, fun X x => pe_cmp (pc_notN (pe X x)) rfl, sem_notN se⟩
theorem st_isN {j : Nat} {p2 : Pos} (ha : SE g a ea) : STt g (.Compare a [.Is] [.Constant .none j p2] pos) (eOp1 opIsN ea) := by
  obtain ⟨te, pe, se⟩ := ha
  exact ⟨tB (tIsN te), fun X x => pt_cmp (pc_isN (pe X x)) rfl, sem_test (sem_isN se)⟩
theorem st_notN {j : Nat} {p2 : Pos} (ha : SE g a ea) : STt g (.Compare a [.IsNot] [.Constant .none j p2] pos) (eOp1 opNotN ea) := by
  obtain ⟨te, pe, se⟩ := ha
  exact ⟨tB (tNotN te), fun X x => pt_cmp (pc_notN (pe X x)) rfl, sem_test (sem_notN se)⟩
theorem se_neg (ha : SE g a ea) : SE g (.UnaryOp .USub a pos) (eOp1 opNeg ea) := by
  obtain ⟨te, pe, se⟩ := ha
  refine ⟨_, fun X x => pe_un un_neg (pe X x), sem_op1 (tw := tUn (rU fun i => .int (-i))) se (fun _ _ _ => rfl) fun σ H W x u z Q rx e k => ?_⟩
  cases u with
  | int i => cases e; exact ⟨i, rx.int, k _ H W Tr.refl (.int _)⟩
  | _ => cases e
theorem sem_chain {ta tb tc : TE} {op op' : Op2} {rr rr' : R2} (h1 : OpS g.cn rr op) (h2 : OpS g.cn rr' op') (hb : ∀ u v z, op u v = some z → ∃ k, z = .bl k) (sa : SemE g.cn g.wx ta ea) (sb : SemE g.cn g.wx tb eb) (sc : SemE g.cn g.wx tc ec) : SemE g.cn g.wx (tChain rr rr' ta tb tc) (eChain op op' ea eb ec) := by
  intro σ r H W Q R h
  show ta σ H (fun x H1 => tb σ H1 fun y H2 => rr x y H2 fun z H3 => ∃ k, z = .bl k ∧ (if k = true then tc σ H3 fun w' H4 => rr' y w' H4 Q else Q (.bl false) H3))
  refine bindE (P := PoE g.cn σ Q) shE sa R h fun x r1 v H1 W1 f1 R1 rr1 q1 => ?_
  refine bindE (P := PoE g.cn σ Q) shE sb R1 q1 fun y r2 w H2 W2 f2 R2 rr2 q2 => ?_
  cases ex : x.val r2 with
  | none => rw [ex] at q2; exact False.elim q2
  | some u =>
    cases ey : y.val r2 with
    | none => rw [ex, ey] at q2; exact False.elim q2
    | some u' =>
      rw [ex, ey] at q2
      simp only [Option.bind_some] at q2
      cases eo : op u u' with
      | none => rw [eo] at q2; exact False.elim q2
      | some z =>
        rw [eo] at q2
        obtain ⟨k, rfl⟩ := hb u u' z eo
        refine h1 H2 W2 v w u u' _ _ ((rr1.mv f2).rv R2 ex) (rr2.rv R2 ey) eo fun w3 H3 W3 t3 rp => ?_
        cases rp
        refine ⟨k, rfl, ?_⟩
        cases k with
        | false => exact q2 _ H3 W3 t3.1 (t3.2 σ r2 R2) (.bl false)
        | true =>
          have R3 := t3.2 σ r2 R2
          show tc σ H3 (fun w' H4 => rr' w w' H4 Q)
          have q3 := ResOk.shift (P := PoE g.cn σ Q) shE t3.1 q2
          refine bindE (P := PoE g.cn σ Q) shE sc R3 q3 fun zz r3 w4 H4 W4 f4 R4 rr4 q4 => ?_
          cases ey2 : y.val r3 with
          | none => rw [ey2] at q4; exact False.elim q4
          | some u2 =>
            cases ez : zz.val r3 with
            | none => rw [ey2, ez] at q4; exact False.elim q4
            | some u3 =>
              rw [ey2, ez] at q4
              simp only [Option.bind_some] at q4
              cases eo2 : op' u2 u3 with
              | none => rw [eo2] at q4; exact False.elim q4
              | some z2 =>
                rw [eo2] at q4
                exact h2 H4 W4 w w4 u2 u3 z2 Q ((rr2.mv (t3.1.trans f4)).rv R4 ey2) (rr4.rv R4 ez) eo2 fun w5 H5 W5 t5 rp5 => q4 w5 H5 W5 t5.1 (t5.2 σ r3 R4) rp5
theorem le_bl : ∀ u v z, opLe u v = some z → ∃ k, z = .bl k := fun u v z h => by
  cases u <;> cases v <;> simp at h
  exact ⟨_, h.symm⟩
theorem se_chainLe {b2 : Expr} (ha : SE g a ea) (hb : SE g b eb) (hc : SE g b2 ec) (hm : lastMarks [.LtE, .LtE] [b, b2] = false) : SE g (.Compare a [.LtE, .LtE] [b, b2] pos) (eChain opLe opLe ea eb ec) := by
  obtain ⟨ta, pa, sa⟩ := ha
  obtain ⟨tb, pb, sb⟩ := hb
  obtain ⟨tc, pc, sc⟩ := hc
  exact ⟨_, fun X x => pe_chain op_le op_le (pa X x) (pb X x) (pc X x) hm, sem_chain ops_le ops_le le_bl sa sb sc⟩
theorem st_chainLe {b2 : Expr} (ha : SE g a ea) (hb : SE g b eb) (hc : SE g b2 ec) (hm : lastMarks [.LtE, .LtE] [b, b2] = false) : STt g (.Compare a [.LtE, .LtE] [b, b2] pos) (eChain opLe opLe ea eb ec) := by
  obtain ⟨ta, pa, sa⟩ := ha
  obtain ⟨tb, pb, sb⟩ := hb
  obtain ⟨tc, pc, sc⟩ := hc
  exact ⟨_, fun X x => pt_chain op_le op_le (pa X x) (pb X x) (pc X x) hm, sem_test (sem_chain ops_le ops_le le_bl sa sb sc)⟩

/-! ### built-ins by name -/
def Fre (g : Cxt) (x : Str) : Prop := g.mg x = none
def Call1 (c : Cn) (rr : List V → Hp → VK → Prop) (op : Op1) : Prop := ∀ (H : Hp) (W : Own) (x : V) (u z : Sk.D) (Q : VK), Rv c H W x u → op u = some z → (∀ w H' W', Tr c H W H' W' → Rp c.K c.T H' W' w z → Q w H') → rr [x] H Q
def Call1L (c : Cn) (rr : List V → Hp → VK → Prop) (op : Op1) : Prop := ∀ (H : Hp) (W : Own) (x : V) (u z : Sk.D) (Q : VK), Rv c H W x u → op u = some z → ∃ l, z = .lst l ∧ ((∀ a xs H' W', Tr c H W H' W' → W' a = some .tmp → H a = none → H' a = some (.lst xs) → Rps c.K c.T H' W' xs l → Q (.ref a) H') → rr [x] H Q)
theorem sem_call1 {ta : TE} {rr : List V → Hp → VK → Prop} {op : Op1} (hs : Call1 g.cn rr op) (sa : SemE g.cn g.wx ta ea) : SemE g.cn g.wx (tCB rr (tCons ta tNil)) (eOp1 op ea) :=
  sem_op1 (tw := fun te => tCB rr (tCons te tNil)) sa (fun _ _ _ => rfl) fun σ H W x u z Q rx e k => hs H W x u z Q rx e k
theorem se_call1B {x : Str} {id : String} {rr : List V → Hp → VK → Prop} {op : Op1} (hB : g.B) (hc : ∀ X, g.XP X → CallR X (.builtin id) rr) (hs : Call1 g.cn rr op) (hg : g.sc.names.lookup x = some .globalImplicit) (hm : Fre g x) (hv : bootBuiltins x = some (.builtin id)) (ha : SE g a ea)
    (hn : x ≠ "__name__" := by decide) (hdb : (x == ("__debug__" : Str)) = false := by decide) (he : ∀ X, g.XP X → starEach [a] X.env = (false, eval a X.env) :: starEach [] X.env := by intros; rfl) (hpl : ∀ X, g.XP X → (backTo pos (starEach [] X.env)).any (·.1) = false := by intros; rfl) :
    SE g (.Call (.Name x p) [a] [] pos) (eOp1 op ea) := by
  obtain ⟨ta, pa, sa⟩ := ha
  exact ⟨_, fun X hx => pe_callB (hc X hx) (hB.gl hg X hx) (by rw [(hB X hx).mg]; exact hm) hv (pa_cons (pa X hx) pa_nil (he X hx)) hn hdb (he X hx) (hpl X hx), sem_call1 hs sa⟩
theorem se_call1T {x : Str} {T : String} {rr : List V → Hp → VK → Prop} {op : Op1} (hB : g.B) (hc : ∀ X, g.XP X → CallR X (.type T) rr) (hs : Call1 g.cn rr op) (hg : g.sc.names.lookup x = some .globalImplicit) (hm : Fre g x) (hv : bootBuiltins x = some (.type T)) (ha : SE g a ea)
    (hn : x ≠ "__name__" := by decide) (hdb : (x == ("__debug__" : Str)) = false := by decide) (he : ∀ X, g.XP X → starEach [a] X.env = (false, eval a X.env) :: starEach [] X.env := by intros; rfl) (hpl : ∀ X, g.XP X → (backTo pos (starEach [] X.env)).any (·.1) = false := by intros; rfl) :
    SE g (.Call (.Name x p) [a] [] pos) (eOp1 op ea) := by
  obtain ⟨ta, pa, sa⟩ := ha
  exact ⟨_, fun X hx => pe_callTy (hc X hx) (hB.gl hg X hx) (by rw [(hB X hx).mg]; exact hm) hv (pa_cons (pa X hx) pa_nil (he X hx)) hn hdb (he X hx) (hpl X hx), sem_call1 hs sa⟩
theorem c1_len {c : Cn} : Call1 c (fun xs H Q => ∃ x n, xs = [x] ∧ LenV c.K x H n ∧ Q (.int n) H) opLen := by
  intro H W x u z Q rx e k
  cases u with
  | str s =>
    cases e
    obtain ⟨e1, h1⟩ := rx.str
    exact ⟨x, s.length, rfl, by rw [e1]; exact ⟨by rw [str_len]; exact h1, (str_len s).symm⟩, k _ H W Tr.refl (.int _)⟩
  | tup l =>
    cases e
    obtain ⟨a, xs, e1, h1, r1⟩ := rx.tup
    exact ⟨x, l.length, rfl, by rw [e1]; exact .inr ⟨xs, h1, r1.len.symm⟩, k _ H W Tr.refl (.int _)⟩
  | lst l =>
    cases e
    obtain ⟨a, xs, e1, h1, r1⟩ := rx.lst
    exact ⟨x, l.length, rfl, by rw [e1]; exact .inl ⟨xs, SqL.of h1, r1.len.symm⟩, k _ H W Tr.refl (.int _)⟩
  | _ => cases e
theorem c1_ord {c : Cn} : Call1 c (fun xs H Q => ∃ x, xs = [.str x] ∧ x.length = 1 ∧ Q (.int (x.cps.getD 0 0 : Nat)) H) opOrd := by
  intro H W x u z Q rx e k
  cases u with
  | str s =>
    cases s with
    | nil => cases e
    | cons ch s =>
      cases s with
      | cons => cases e
      | nil => cases e; exact ⟨_, by rw [rx.str.1], rfl, k _ H W Tr.refl (.int _)⟩
  | _ => cases e
def rIntAll : List V → Hp → VK → Prop := fun xs H Q => ((∃ i, xs = [.int i] ∧ Q (.int i) H) ∨ ∃ k, xs = [.bl k] ∧ Q (.int (if k then 1 else 0)) H) ∨ ∃ a n, xs = [.str a] ∧ PySem.intText? a = some n ∧ a.length ≤ 640 ∧ Q (.int n) H
theorem call_intAll {X : Cx} : CallR X (.type "int") rIntAll := call_int1.or call_int_str
theorem intText_fig : ∀ c : Nat, c < 58 → 48 ≤ c → PySem.intText? ⟨#[c]⟩ = some ((c : Int) - 48) := by decide +kernel
theorem c1_int {c : Cn} : Call1 c rIntAll opInt := by
  intro H W x u z Q rx e k
  cases u with
  | int i => cases e; exact .inl (.inl ⟨i, by rw [rx.int], k _ H W Tr.refl (.int _)⟩)
  | bl i => cases e; exact .inl (.inr ⟨i, by rw [rx.bl], k _ H W Tr.refl (.int _)⟩)
  | str s =>
    cases s with
    | nil => cases e
    | cons ch s =>
      cases s with
      | cons => cases e
      | nil =>
        have e' : (if 48 ≤ ch ∧ ch ≤ 57 then some (Sk.D.int ((ch : Int) - 48)) else none) = some z := e
        split at e'
        · rename_i q
          cases e'
          exact .inr ⟨_, _, by rw [rx.str.1], intText_fig ch (by omega) q.1, by show (1 : Nat) ≤ 640; decide, k _ H W Tr.refl (.int _)⟩
        · cases e'
  | _ => cases e
theorem str_fig : ∀ n : Nat, n < 10 → (toString (n : Int) : String) = String.ofList [Char.ofNat (48 + n)] ∧ Str.ofString (toString (n : Int)) = ⟨[48 + n].toArray⟩ := by decide +kernel
theorem c1_str {c : Cn} : Call1 c (fun xs H Q => ∃ i, xs = [.int i] ∧ i.natAbs.log2 < 1920 ∧ Q (.str (toString i)) H) opStr := by
  intro H W x u z Q rx e k
  cases u with
  | int i =>
    have e' : (if 0 ≤ i ∧ i < 10 then some (Sk.D.str [48 + i.toNat]) else none) = some z := e
    split at e'
    · rename_i q
      cases e'
      obtain ⟨n, rfl⟩ := Int.eq_ofNat_of_zero_le q.1
      have hn : n < 10 := by omega
      refine ⟨_, by rw [rx.int], ?_, ?_⟩
      · have : ((n : Int)).natAbs = n := Int.natAbs_natCast n
        rw [this]
        have : ∀ m : Nat, m < 10 → m.log2 < 1920 := by decide
        exact this n hn
      · rw [(str_fig n hn).2]
        exact k _ H W Tr.refl (.str _ (by rw [sizeLine_eq]; simp))
    · cases e'
  | _ => cases e
theorem c1_tuple {c : Cn} : Call1 c (fun xs H Q => ∃ p ys, xs = [.ref p] ∧ ((SqL c.K H p ys ∧ ∀ l, H l = none → Q (.ref l) (upd H l (.tup ys))) ∨ (SqT c.K H p ys ∧ Q (.ref p) H))) opTuple := by
  intro H W x u z Q rx e k
  cases u with
  | tup l =>
    cases e
    obtain ⟨a, xs, e1, h1, r1⟩ := rx.tup
    exact ⟨a, xs, by rw [e1], .inr ⟨h1, k _ H W Tr.refl (.tup h1 r1)⟩⟩
  | lst l =>
    cases e
    obtain ⟨a, xs, e1, h1, r1⟩ := rx.lst
    refine ⟨a, xs, by rw [e1], .inl ⟨SqL.of h1, fun p hp => ?_⟩⟩
    have t := Tr.new (c := c) (W := W) (o := .tup xs) (t := none) hp
    exact k _ _ _ t (.tup (SqT.of upd_same) (r1.mv t.1.mv))
  | _ => cases e
theorem rps_ints {K : PySem.W.Frag} {T : Tab} {H : Hp} {W : Own} : ∀ ns : List Int, Rps K T H W (ns.map V.int) (ns.map Sk.D.int)
  | [] => .nil
  | n :: r => .cons (.int n) (rps_ints r)
theorem c1L_list {c : Cn} : Call1L c (fun xs H Q => ∃ p ys, xs = [.ref p] ∧ (SqL c.K H p ys ∨ SqT c.K H p ys) ∧ ∀ l, H l = none → Q (.ref l) (upd H l (.lst ys))) opList := by
  intro H W x u z Q rx e
  have fin : ∀ (a : Addr) (xs : List V) (l : List Sk.D), x = .ref a → (SqL c.K H a xs ∨ SqT c.K H a xs) → Rps c.K c.T H W xs l →
      ((∀ a xs H' W', Tr c H W H' W' → W' a = some .tmp → H a = none → H' a = some (.lst xs) → Rps c.K c.T H' W' xs l → Q (.ref a) H') → ∃ p ys, [x] = [.ref p] ∧ (SqL c.K H p ys ∨ SqT c.K H p ys) ∧ ∀ l, H l = none → Q (.ref l) (upd H l (.lst ys))) := by
    intro a xs l e1 hs r1 k
    refine ⟨a, xs, by rw [e1], hs, fun p hp => ?_⟩
    have t := Tr.new (c := c) (W := W) (o := .lst xs) (t := some .tmp) hp
    exact k p xs _ _ t setW_same hp upd_same (r1.mv t.1.mv)
  cases u with
  | tup l => cases e; obtain ⟨a, xs, e1, h1, r1⟩ := rx.tup; exact ⟨l, rfl, fin a xs l e1 (.inr h1) r1⟩
  | lst l => cases e; obtain ⟨a, xs, e1, h1, r1⟩ := rx.lst; exact ⟨l, rfl, fin a xs l e1 (.inl (SqL.of h1)) r1⟩
  | scr l =>
    cases e
    cases rx with
    | of r => cases r with
      | scr h => exact ⟨_, rfl, fin _ _ _ rfl (.inl h.sql) (rps_ints l)⟩
  | _ => cases e
theorem eOp1_lst {op : Op1} (hop : ∀ u z, op u = some z → ∃ l, z = .lst l) : ∀ r x r', eOp1 op ea r = .ok x r' → ∃ l, x = .d (.lst l) := by
  intro r x r' h
  unfold eOp1 at h
  cases e1 : ea r with
  | bad => rw [e1] at h; cases h
  | exc n q => rw [e1] at h; cases h
  | ok x1 r1 =>
    rw [e1] at h
    simp only [Res.bind_ok] at h
    cases ex : x1.val r1 with
    | none => rw [ex] at h; cases h
    | some u =>
      rw [ex] at h
      simp only [Option.bind_some] at h
      cases eo : op u with
      | none => rw [eo] at h; cases h
      | some z =>
        rw [eo] at h
        obtain ⟨l, rfl⟩ := hop u z eo
        cases h
        exact ⟨l, rfl⟩
theorem opList_lst : ∀ u z, opList u = some z → ∃ l, z = .lst l := by
  intro u z e
  cases u <;> cases e <;> exact ⟨_, rfl⟩
theorem sem_op1L {te : TE} {tw : TE → TE} {op : Op1} (sa : SemE g.cn g.wx te ea) (k : ∀ σ H (Q : VK), tw te σ H Q = te σ H fun x H1 => tw (fun _ _ Q' => Q' x H1) σ H1 Q)
    (hs : ∀ (σ : L2.St) (H : Hp) (W : Own) (x : V) (u z : Sk.D) (Q : VK), Rv g.cn H W x u → op u = some z → ∃ l, z = .lst l ∧ ((∀ a xs H' W', Tr g.cn H W H' W' → W' a = some .tmp → H a = none → H' a = some (.lst xs) → Rps g.cn.K g.cn.T H' W' xs l → Q (.ref a) H') → tw (fun _ _ Q' => Q' x H) σ H Q)) : SemL g.cn g.wx (tw te) (eOp1 op ea) := by
  intro σ r H W Q R h
  rw [k]
  refine bindE (P := PoL g.cn σ Q) shL sa R h fun x r1 v H1 W1 f1 R1 rr1 h1 => ?_
  cases ex : x.val r1 with
  | none => rw [ex] at h1; exact False.elim h1
  | some u =>
    rw [ex] at h1
    simp only [Option.bind_some] at h1
    cases eo : op u with
    | none => rw [eo] at h1; exact False.elim h1
    | some z =>
      rw [eo] at h1
      obtain ⟨l, rfl, hk⟩ := hs σ H1 W1 v u z Q (rr1.rv R1 ex) eo
      exact hk fun a xs H2 W2 t2 wt n hx rx => h1 l rfl a xs H2 W2 t2.1 (t2.2 σ r1 R1) wt n hx rx
def rListOf (K : PySem.W.Frag) : List V → Hp → VK → Prop := fun xs H Q => ∃ p ys, xs = [.ref p] ∧ (SqL K H p ys ∨ SqT K H p ys) ∧ ∀ l, H l = none → Q (.ref l) (upd H l (.lst ys))
def rTupOf (K : PySem.W.Frag) : List V → Hp → VK → Prop := fun xs H Q => ∃ p ys, xs = [.ref p] ∧ ((SqL K H p ys ∧ ∀ l, H l = none → Q (.ref l) (upd H l (.tup ys))) ∨ (SqT K H p ys ∧ Q (.ref p) H))
def rLenOf (K : PySem.W.Frag) : List V → Hp → VK → Prop := fun xs H Q => ∃ x n, xs = [x] ∧ LenV K x H n ∧ Q (.int n) H
theorem sl_list (hB : g.B) (hg : g.sc.names.lookup ("list" : Str) = some .globalImplicit) (hm : Fre g "list") (ha : SE g a ea)
    (he : ∀ X, g.XP X → starEach [a] X.env = (false, eval a X.env) :: starEach [] X.env := by intros; rfl) (hpl : ∀ X, g.XP X → (backTo pos (starEach [] X.env)).any (·.1) = false := by intros; rfl) : SL g (.Call (.Name "list" p) [a] [] pos) (eOp1 opList ea) := by
  obtain ⟨ta, pa, sa⟩ := ha
  refine ⟨tCB (rListOf g.cn.K) (tCons ta tNil), fun X hx => pe_callTy (T := "list") (r := rListOf g.cn.K) (by rw [← hB.K X hx]; exact call_list_of) (hB.gl hg X hx) (by rw [(hB X hx).mg]; exact hm) (by decide +kernel) (pa_cons (pa X hx) pa_nil (he X hx)) (by decide) (by decide) (he X hx) (hpl X hx), ?_, eOp1_lst opList_lst⟩
  exact sem_op1L (tw := fun te => tCB (rListOf g.cn.K) (tCons te tNil)) sa (fun _ _ _ => rfl) fun σ H W x u z Q rx e => c1L_list H W x u z Q rx e
theorem se_tuple (hB : g.B) (hg : g.sc.names.lookup ("tuple" : Str) = some .globalImplicit) (hm : Fre g "tuple") (ha : SE g a ea) 
    (he : ∀ X, g.XP X → starEach [a] X.env = (false, eval a X.env) :: starEach [] X.env := by intros; rfl) (hpl : ∀ X, g.XP X → (backTo pos (starEach [] X.env)).any (·.1) = false := by intros; rfl) : SE g (.Call (.Name "tuple" p) [a] [] pos) (eOp1 opTuple ea) :=
  se_call1T (rr := rTupOf g.cn.K) hB (fun X hx => by rw [← hB.K X hx]; exact call_tuple_of) c1_tuple hg hm (by decide +kernel) ha (he := he) (hpl := hpl)
theorem se_len (hB : g.B) (hg : g.sc.names.lookup ("len" : Str) = some .globalImplicit) (hm : Fre g "len") (ha : SE g a ea)
    (he : ∀ X, g.XP X → starEach [a] X.env = (false, eval a X.env) :: starEach [] X.env := by intros; rfl) (hpl : ∀ X, g.XP X → (backTo pos (starEach [] X.env)).any (·.1) = false := by intros; rfl) : SE g (.Call (.Name "len" p) [a] [] pos) (eOp1 opLen ea) :=
  se_call1B (rr := rLenOf g.cn.K) hB (fun X hx => by rw [← hB.K X hx]; exact call_len) c1_len hg hm (by decide +kernel) ha (he := he) (hpl := hpl)
theorem se_ord (hB : g.B) (hg : g.sc.names.lookup ("ord" : Str) = some .globalImplicit) (hm : Fre g "ord") (ha : SE g a ea)
    (he : ∀ X, g.XP X → starEach [a] X.env = (false, eval a X.env) :: starEach [] X.env := by intros; rfl) (hpl : ∀ X, g.XP X → (backTo pos (starEach [] X.env)).any (·.1) = false := by intros; rfl) : SE g (.Call (.Name "ord" p) [a] [] pos) (eOp1 opOrd ea) :=
  se_call1B hB (fun X hx => call_ord) c1_ord hg hm (by decide +kernel) ha (he := he) (hpl := hpl)
theorem se_int1 (hB : g.B) (hg : g.sc.names.lookup ("int" : Str) = some .globalImplicit) (hm : Fre g "int") (ha : SE g a ea)
    (he : ∀ X, g.XP X → starEach [a] X.env = (false, eval a X.env) :: starEach [] X.env := by intros; rfl) (hpl : ∀ X, g.XP X → (backTo pos (starEach [] X.env)).any (·.1) = false := by intros; rfl) : SE g (.Call (.Name "int" p) [a] [] pos) (eOp1 opInt ea) :=
  se_call1T hB (fun X hx => call_intAll) c1_int hg hm (by decide +kernel) ha (he := he) (hpl := hpl)
theorem se_str1 (hB : g.B) (hg : g.sc.names.lookup ("str" : Str) = some .globalImplicit) (hm : Fre g "str") (ha : SE g a ea)
    (he : ∀ X, g.XP X → starEach [a] X.env = (false, eval a X.env) :: starEach [] X.env := by intros; rfl) (hpl : ∀ X, g.XP X → (backTo pos (starEach [] X.env)).any (·.1) = false := by intros; rfl) : SE g (.Call (.Name "str" p) [a] [] pos) (eOp1 opStr ea) :=
  se_call1T hB (fun X hx => call_str_int) c1_str hg hm (by decide +kernel) ha (he := he) (hpl := hpl)
/-! sum, min, max -/
theorem ints_vs {c : Cn} {H : Hp} {W : Own} : ∀ {xs : List V} {l : List Sk.D} {ns : List Int}, Rps c.K c.T H W xs l → allInt l = some ns → xs = ns.map V.int
  | _, _, _, .nil, e => by cases e; rfl
  | _, _, ns, .cons (d := d) (ds := ds) r t, e => by
    cases d with
    | int i =>
      have e1 : (allInt ds).map (i :: ·) = some ns := e
      cases q : allInt ds with
      | none => rw [q] at e1; cases e1
      | some l' => rw [q] at e1; cases e1; cases r; rw [ints_vs t q]; rfl
    | _ => cases e
theorem c1_sum {c : Cn} : Call1 c (rSum c.K) opSum := by
  intro H W x u z Q rx e k
  cases u with
  | lst l =>
    obtain ⟨a, xs, e1, h1, r1⟩ := rx.lst
    have e' : (allInt l).map (fun ns => Sk.D.int ns.sum) = some z := e
    cases q : allInt l with
    | none => rw [q] at e'; cases e'
    | some ns =>
      rw [q] at e'; cases e'
      have := ints_vs r1 q
      subst this
      exact ⟨a, ns, by rw [e1], SqL.of h1, k _ H W Tr.refl (.int _)⟩
  | _ => cases e
theorem minL_mem : ∀ (m : Int) (r : List Int), minL m r ∈ m :: r ∧ ∀ y ∈ m :: r, minL m r ≤ y
  | m, [] => ⟨by simp [minL], fun y hy => by simp at hy; subst hy; exact Int.le_refl _⟩
  | m, x :: r => by
    obtain ⟨h1, h2⟩ := minL_mem (if x < m then x else m) r
    unfold minL
    have h3 := h2 _ List.mem_cons_self
    refine ⟨?_, fun y hy => ?_⟩
    · rcases List.mem_cons.mp h1 with h | h
      · rw [h]; by_cases q : x < m <;> simp [q]
      · exact List.mem_cons_of_mem _ (List.mem_cons_of_mem _ h)
    · rcases List.mem_cons.mp hy with rfl | hy
      · by_cases q : x < y
        · rw [if_pos q] at h3 ⊢; omega
        · rw [if_neg q] at h3 ⊢; omega
      · rcases List.mem_cons.mp hy with rfl | hy
        · by_cases q : y < m
          · rw [if_pos q] at h3 ⊢; omega
          · rw [if_neg q] at h3 ⊢; omega
        · exact h2 y (List.mem_cons_of_mem _ hy)
theorem maxL_mem : ∀ (m : Int) (r : List Int), maxL m r ∈ m :: r ∧ ∀ y ∈ m :: r, y ≤ maxL m r
  | m, [] => ⟨by simp [maxL], fun y hy => by simp at hy; subst hy; exact Int.le_refl _⟩
  | m, x :: r => by
    obtain ⟨h1, h2⟩ := maxL_mem (if x > m then x else m) r
    unfold maxL
    have h3 := h2 _ List.mem_cons_self
    refine ⟨?_, fun y hy => ?_⟩
    · rcases List.mem_cons.mp h1 with h | h
      · rw [h]; by_cases q : x > m <;> simp [q]
      · exact List.mem_cons_of_mem _ (List.mem_cons_of_mem _ h)
    · rcases List.mem_cons.mp hy with rfl | hy
      · by_cases q : x > y
        · rw [if_pos q] at h3 ⊢; omega
        · rw [if_neg q] at h3 ⊢; omega
      · rcases List.mem_cons.mp hy with rfl | hy
        · by_cases q : y > m
          · rw [if_pos q] at h3 ⊢; omega
          · rw [if_neg q] at h3 ⊢; omega
        · exact h2 y (List.mem_cons_of_mem _ hy)
theorem c1_minL {c : Cn} : Call1 c (rMin c.K) opMinL := by
  intro H W x u z Q rx e k
  cases u with
  | lst l =>
    obtain ⟨a, xs, e1, h1, r1⟩ := rx.lst
    have e' : (match allInt l with
      | some (x :: r) => some (Sk.D.int (minL x r))
      | _ => none) = some z := e
    cases q : allInt l with
    | none => rw [q] at e'; cases e'
    | some ns =>
      rw [q] at e'
      cases ns with
      | nil => cases e'
      | cons n r =>
        cases e'
        have := ints_vs r1 q
        subst this
        refine ⟨a, n :: r, by rw [e1], SqL.of h1, by simp, fun m hm hle => ?_⟩
        obtain ⟨g1, g2⟩ := minL_mem n r
        have : m = minL n r := Int.le_antisymm (hle _ g1) (g2 _ hm)
        rw [this]
        exact k _ H W Tr.refl (.int _)
  | _ => cases e
theorem c1_maxL {c : Cn} : Call1 c (rMax c.K) opMaxL := by
  intro H W x u z Q rx e k
  cases u with
  | lst l =>
    obtain ⟨a, xs, e1, h1, r1⟩ := rx.lst
    have e' : (match allInt l with
      | some (x :: r) => some (Sk.D.int (maxL x r))
      | _ => none) = some z := e
    cases q : allInt l with
    | none => rw [q] at e'; cases e'
    | some ns =>
      rw [q] at e'
      cases ns with
      | nil => cases e'
      | cons n r =>
        cases e'
        have := ints_vs r1 q
        subst this
        refine ⟨a, n :: r, by rw [e1], SqL.of h1, by simp, fun m hm hle => ?_⟩
        obtain ⟨g1, g2⟩ := maxL_mem n r
        have : m = maxL n r := Int.le_antisymm (g2 _ hm) (hle _ g1)
        rw [this]
        exact k _ H W Tr.refl (.int _)
  | _ => cases e
theorem Cxt.R.calm (h : g.R) : ∀ X, g.XP X → X.calm = true := fun X x => (h X x).calm
theorem se_sum (hB : g.B) (hR : g.R) (hg : g.sc.names.lookup ("sum" : Str) = some .globalImplicit) (hm : Fre g "sum") (ha : SE g a ea)
    (he : ∀ X, g.XP X → starEach [a] X.env = (false, eval a X.env) :: starEach [] X.env := by intros; rfl) (hpl : ∀ X, g.XP X → (backTo pos (starEach [] X.env)).any (·.1) = false := by intros; rfl) : SE g (.Call (.Name "sum" p) [a] [] pos) (eOp1 opSum ea) :=
  se_call1B (rr := rSum g.cn.K) hB (fun X hx => by rw [← hB.K X hx]; exact cr_sum (hR.calm X hx)) c1_sum hg hm (by decide +kernel) ha (he := he) (hpl := hpl)
theorem se_minL (hB : g.B) (hR : g.R) (hg : g.sc.names.lookup ("min" : Str) = some .globalImplicit) (hm : Fre g "min") (ha : SE g a ea)
    (he : ∀ X, g.XP X → starEach [a] X.env = (false, eval a X.env) :: starEach [] X.env := by intros; rfl) (hpl : ∀ X, g.XP X → (backTo pos (starEach [] X.env)).any (·.1) = false := by intros; rfl) : SE g (.Call (.Name "min" p) [a] [] pos) (eOp1 opMinL ea) :=
  se_call1B (rr := rMin g.cn.K) hB (fun X hx => by rw [← hB.K X hx]; exact L2.cr_min (hR.calm X hx)) c1_minL hg hm (by decide +kernel) ha (he := he) (hpl := hpl)
theorem se_maxL (hB : g.B) (hR : g.R) (hg : g.sc.names.lookup ("max" : Str) = some .globalImplicit) (hm : Fre g "max") (ha : SE g a ea)
    (he : ∀ X, g.XP X → starEach [a] X.env = (false, eval a X.env) :: starEach [] X.env := by intros; rfl) (hpl : ∀ X, g.XP X → (backTo pos (starEach [] X.env)).any (·.1) = false := by intros; rfl) : SE g (.Call (.Name "max" p) [a] [] pos) (eOp1 opMaxL ea) :=
  se_call1B (rr := rMax g.cn.K) hB (fun X hx => by rw [← hB.K X hx]; exact L2.cr_max (hR.calm X hx)) c1_maxL hg hm (by decide +kernel) ha (he := he) (hpl := hpl)
/-- two arguments -/
theorem sem_call2 {ta tb : TE} {rr : List V → Hp → VK → Prop} {op : Op2} (hs : OpS g.cn (fun x y H Q => rr [x, y] H Q) op) (sa : SemE g.cn g.wx ta ea) (sb : SemE g.cn g.wx tb eb) : SemE g.cn g.wx (tCB rr (tCons ta (tCons tb tNil))) (eOp op ea eb) := sem_op hs sa sb
theorem se_call2B {x : Str} {id : String} {rr : List V → Hp → VK → Prop} {op : Op2} (hB : g.B) (hc : ∀ X, g.XP X → CallR X (.builtin id) rr) (hs : OpS g.cn (fun x y H Q => rr [x, y] H Q) op) (hg : g.sc.names.lookup x = some .globalImplicit) (hm : Fre g x) (hv : bootBuiltins x = some (.builtin id)) (ha : SE g a ea) (hb : SE g b eb)
    (hn : x ≠ "__name__" := by decide) (hdb : (x == ("__debug__" : Str)) = false := by decide) (he : ∀ X, g.XP X → starEach [a, b] X.env = (false, eval a X.env) :: starEach [b] X.env := by intros; rfl) (he2 : ∀ X, g.XP X → starEach [b] X.env = (false, eval b X.env) :: starEach [] X.env := by intros; rfl) (hpl : ∀ X, g.XP X → (backTo pos (starEach [b] X.env)).any (·.1) = false := by intros; rfl) :
    SE g (.Call (.Name x p) [a, b] [] pos) (eOp op ea eb) := by
  obtain ⟨ta, pa, sa⟩ := ha
  obtain ⟨tb, pb, sb⟩ := hb
  exact ⟨tCB rr (tCons ta (tCons tb tNil)), fun X hx => pe_callB (hc X hx) (hB.gl hg X hx) (by rw [(hB X hx).mg]; exact hm) hv (pa_cons (pa X hx) (pa_cons (pb X hx) pa_nil (he2 X hx)) (he X hx)) hn hdb (he X hx) (hpl X hx), sem_call2 hs sa sb⟩
theorem ops_min2 {c : Cn} : OpS c (fun x y H Q => ∃ i j, [x, y] = [V.int i, V.int j] ∧ Q (.int (if j < i then j else i)) H) opMin2 := by
  intro H W x y u v z Q rx ry e k
  cases u with
  | int i => cases v with
    | int j => cases e; exact ⟨i, j, by rw [rx.int, ry.int], k _ H W Tr.refl (.int _)⟩
    | _ => cases e
  | _ => cases v <;> cases e
theorem ops_max2 {c : Cn} : OpS c (fun x y H Q => ∃ i j, [x, y] = [V.int i, V.int j] ∧ Q (.int (if j > i then j else i)) H) opMax2 := by
  intro H W x y u v z Q rx ry e k
  cases u with
  | int i => cases v with
    | int j => cases e; exact ⟨i, j, by rw [rx.int, ry.int], k _ H W Tr.refl (.int _)⟩
    | _ => cases e
  | _ => cases v <;> cases e
theorem se_min2 (hB : g.B) (hR : g.R) (hg : g.sc.names.lookup ("min" : Str) = some .globalImplicit) (hm : Fre g "min") (ha : SE g a ea) (hb : SE g b eb)
    (he : ∀ X, g.XP X → starEach [a, b] X.env = (false, eval a X.env) :: starEach [b] X.env := by intros; rfl) (he2 : ∀ X, g.XP X → starEach [b] X.env = (false, eval b X.env) :: starEach [] X.env := by intros; rfl) (hpl : ∀ X, g.XP X → (backTo pos (starEach [b] X.env)).any (·.1) = false := by intros; rfl) : SE g (.Call (.Name "min" p) [a, b] [] pos) (eOp opMin2 ea eb) :=
  se_call2B hB (fun X hx => call_min2 (hR.calm X hx)) ops_min2 hg hm (by decide +kernel) ha hb (he := he) (he2 := he2) (hpl := hpl)
theorem se_max2 (hB : g.B) (hR : g.R) (hg : g.sc.names.lookup ("max" : Str) = some .globalImplicit) (hm : Fre g "max") (ha : SE g a ea) (hb : SE g b eb)
    (he : ∀ X, g.XP X → starEach [a, b] X.env = (false, eval a X.env) :: starEach [b] X.env := by intros; rfl) (he2 : ∀ X, g.XP X → starEach [b] X.env = (false, eval b X.env) :: starEach [] X.env := by intros; rfl) (hpl : ∀ X, g.XP X → (backTo pos (starEach [b] X.env)).any (·.1) = false := by intros; rfl) : SE g (.Call (.Name "max" p) [a, b] [] pos) (eOp opMax2 ea eb) :=
  se_call2B hB (fun X hx => call_max2 (hR.calm X hx)) ops_max2 hg hm (by decide +kernel) ha hb (he := he) (he2 := he2) (hpl := hpl)
/-! isinstance -/
def tyN : Ty → String
  | .bool => "bool" | .int => "int" | .str => "str" | .tuple => "tuple" | .list => "list"
theorem isTy_kit {c : Cn} {H : Hp} {W : Own} {x : V} {u : Sk.D} {t : Ty} {b : Bool} (rx : Rv c H W x u) (h : isTy t u = some b) : ∃ T, TyX c.K H x T ∧ PySem.W.kitOne c.K T (.type (tyN t)) = some b := by
  cases u with
  | non => rw [rx.non]; exact ⟨_, .base .non, by cases t <;> cases h <;> exact kit_ty (by decide +kernel)⟩
  | bl i => rw [rx.bl]; exact ⟨_, .base (.bl i), by cases t <;> cases h <;> exact kit_ty (by decide +kernel)⟩
  | int i => rw [rx.int]; exact ⟨_, .base (.int i), by cases t <;> cases h <;> exact kit_ty (by decide +kernel)⟩
  | str i => rw [rx.str.1]; exact ⟨_, .base (.str _), by cases t <;> cases h <;> exact kit_ty (by decide +kernel)⟩
  | tup l =>
    obtain ⟨a, xs, e1, h1, r1⟩ := rx.tup
    subst e1
    have k : PySem.W.kitOne c.K (.type "tuple") (.type (tyN t)) = some b := by cases t <;> cases h <;> exact kit_ty (by decide +kernel)
    rcases h1 with (h1 | ⟨o, h1⟩) | ⟨o, its, n, hk, hc, _⟩
    · exact ⟨_, .base (.tup h1), k⟩
    · exact ⟨_, .fTuple h1, k⟩
    · exact ⟨_, .kTuple hk hc, k⟩
  | lst l =>
    obtain ⟨a, xs, e1, h1, r1⟩ := rx.lst
    subst e1
    exact ⟨_, .base (.lst h1), by cases t <;> cases h <;> exact kit_ty (by decide +kernel)⟩
  | _ => cases t <;> cases h
theorem tyN_boot (t : Ty) : bootBuiltins (tyN t) = some (.type (tyN t)) := by cases t <;> decide +kernel
theorem se_isTy {t : Ty} {x : Str} {p2 : Pos} (hB : g.B) (hg : g.sc.names.lookup ("isinstance" : Str) = some .globalImplicit) (hm : Fre g "isinstance") (hx : x = Str.ofString (tyN t)) (hg2 : g.sc.names.lookup x = some .globalImplicit) (hm2 : Fre g x) (ha : SE g a ea)
    (hd2 : (x == ("__debug__" : Str)) = false := by decide) (hn2 : x ≠ "__name__" := by decide)
    (he : ∀ X, g.XP X → starEach [a, .Name x p2] X.env = (false, eval a X.env) :: starEach [.Name x p2] X.env := by intros; rfl) (he2 : ∀ X, g.XP X → starEach [.Name x p2] X.env = (false, eval (.Name x p2) X.env) :: starEach [] X.env := by intros; rfl) (hpl : ∀ X, g.XP X → (backTo pos (starEach [.Name x p2] X.env)).any (·.1) = false := by intros; rfl) :
    SE g (.Call (.Name "isinstance" p) [a, .Name x p2] [] pos) (eOp1 (opIsTy t) ea) := by
  obtain ⟨ta, pa, sa⟩ := ha
  refine ⟨tCB (rIsi g.cn.K) (tCons ta (tCons (tC (.ty (tyN t))) tNil)), fun X xx => pe_callB (id := "isinstance") (by rw [← hB.K X xx]; exact call_isi) (hB.gl hg X xx) (by rw [(hB X xx).mg]; exact hm) (by decide +kernel) (pa_cons (pa X xx) (pa_cons (pe_bltn (u := .type (tyN t)) (hB.gl hg2 X xx) (by rw [(hB X xx).mg]; exact hm2) (by rw [hx]; exact tyN_boot t) rfl hn2 hd2) pa_nil (he2 X xx)) (he X xx)) (by decide) (by decide) (he X xx) (hpl X xx),
    sem_op1 (tw := fun te => tCB (rIsi g.cn.K) (tCons te (tCons (tC (.ty (tyN t))) tNil))) sa (fun _ _ _ => rfl) fun σ H W v u z Q rx e k => ?_⟩
  have e' : (isTy t u).map Sk.D.bl = some z := e
  cases q : isTy t u with
  | none => rw [q] at e'; cases e'
  | some b =>
    rw [q] at e'; cases e'
    obtain ⟨T, h1, h2⟩ := isTy_kit rx q
    exact ⟨v, .ty (tyN t), T, .type (tyN t), b, rfl, .ty _, h1, h2, k _ H W Tr.refl (.bl b)⟩
end
end SkS

namespace SkS
open PySem PySem.Spec PyProof.Rows L2 Sk
section
variable {g : Cxt} {a b e d : Expr} {es : List Expr} {ea eb ec ev : EV} {av : AV} {pos p apos : Pos}
/-! ### join -/
theorem joinT_len (sep : Txt) : ∀ xs : List Txt, (joinT sep xs).length ≤ (xs.map List.length).sum + xs.length * sep.length
  | [] => by simp [joinT]
  | [x] => by simp [joinT]
  | x :: y :: r => by
    have ih := joinT_len sep (y :: r)
    show (x ++ (sep ++ joinT sep (y :: r))).length ≤ _
    rw [List.length_append, List.length_append, List.map_cons, List.sum_cons]
    have : (x :: y :: r).length * sep.length = sep.length + (y :: r).length * sep.length := by rw [List.length_cons, Nat.add_mul]; omega
    rw [this]
    omega
theorem join_eqT (sep : Txt) : ∀ xs : List Txt, Str.join (⟨sep.toArray⟩ : Str) (xs.map fun x => (⟨x.toArray⟩ : Str)) = ⟨(joinT sep xs).toArray⟩
  | [] => rfl
  | [x] => rfl
  | x :: y :: r => by
    have ih := join_eqT sep (y :: r)
    show (⟨x.toArray⟩ : Str) ++ ⟨sep.toArray⟩ ++ Str.join _ ((y :: r).map fun x => (⟨x.toArray⟩ : Str)) = _
    rw [ih, str_app, str_app]
    show _ = (⟨(x ++ (sep ++ joinT sep (y :: r))).toArray⟩ : Str)
    rw [List.append_assoc]
theorem strs_vs {c : Cn} {H : Hp} {W : Own} : ∀ {xs : List V} {l : List Sk.D} {ns : List Txt}, Rps c.K c.T H W xs l → allStr l = some ns → xs = (ns.map fun x => (⟨x.toArray⟩ : Str)).map V.str
  | _, _, _, .nil, e => by cases e; rfl
  | _, _, ns, .cons (d := d) (ds := ds) r t, e => by
    cases d with
    | str i =>
      have e1 : (allStr ds).map (i :: ·) = some ns := e
      cases q : allStr ds with
      | none => rw [q] at e1; cases e1
      | some l' => rw [q] at e1; cases e1; cases r; rw [strs_vs t q]; rfl
    | _ => cases e
theorem se_join {s : Str} {l : Txt} {j : Nat} {p1 : Pos} (hB : g.B) (hl : s = ⟨l.toArray⟩) (hb : SE g b eb) (hs : ∀ X, g.XP X → starEach [b] X.env = [(false, eval b X.env)] := by intros; rfl)
    (hbase : ∀ X, g.XP X → attributeBase (.Constant (.str s) j p1) "join" X.env (eval (.Constant (.str s) j p1) X.env) = eval (.Constant (.str s) j p1) X.env := by intros; rfl) (hline : (apos.endLine == pos.line) = true := by rfl) :
    SE g (.Call (.Attribute (.Constant (.str s) j p1) "join" apos) [b] [] pos) (eOp1 (opJoin l) eb) := by
  obtain ⟨tb, pb, sb⟩ := hb
  refine ⟨tM1 (fun x xs H Q => ∃ a p, ∃ ys : List Str, x = .str a ∧ xs = [.ref p] ∧ (SqL g.cn.K H p (ys.map V.str) ∨ SqT g.cn.K H p (ys.map V.str)) ∧
    (ys.map (·.length)).sum + ys.length * a.length ≤ 16777216 ∧ Q (.str (PySem.Txt.join a ys)) H) (tC (.str s)) tb, fun X hx => ?_, ?_⟩
  · refine pe_m1 PySem.F.slot_str_join PySem.F.type_str_join ?_ pe_str (pb X hx) (hs X hx) (hbase X hx) hline
    rw [← hB.K X hx]
    exact mt_join
  · refine sem_op1 (tw := fun tb => tM1 _ (tC (.str s)) tb) sb (fun σ H Q => ?_) fun σ H W x u z Q rx e k => ?_
    · apply propext
      constructor
      · rintro ⟨⟨a', ea'⟩, h⟩
        refine cast ?_ h
        congr 1
        funext x H1
        apply propext
        constructor
        · intro q; exact ⟨⟨a', ea'⟩, q⟩
        · rintro ⟨_, q⟩; exact q
      · intro h
        refine ⟨⟨s, rfl⟩, cast ?_ h⟩
        congr 1
        funext x H1
        apply propext
        constructor
        · rintro ⟨_, q⟩; exact q
        · intro q; exact ⟨⟨s, rfl⟩, q⟩
    · cases u with
      | lst l' =>
        have e' : (allStr l').bind (fun xs => okSz ((xs.map List.length).sum + xs.length * l.length) (.str (joinT l xs))) = some z := e
        cases q : allStr l' with
        | none => rw [q] at e'; cases e'
        | some ns =>
          rw [q] at e'
          obtain ⟨hz, rfl⟩ := okSz_some e'
          obtain ⟨a, xs, e1, h1, r1⟩ := rx.lst
          have := strs_vs r1 q
          subst this
          refine ⟨⟨s, rfl⟩, s, a, ns.map fun x => (⟨x.toArray⟩ : Str), rfl, by rw [e1], .inl (SqL.of h1), ?_, ?_⟩
          · rw [hl, str_len, List.map_map, List.length_map]
            have : ((fun x : Str => x.length) ∘ fun x : Txt => (⟨x.toArray⟩ : Str)) = List.length := by funext x; exact str_len x
            rw [this, ← sizeLine_eq]
            exact hz
          · rw [show PySem.Txt.join s (ns.map fun x => (⟨x.toArray⟩ : Str)) = Str.join s (ns.map fun x => (⟨x.toArray⟩ : Str)) from PySem.StrLaws.glued_eq_join _ _, hl, join_eqT]
            exact k _ H W Tr.refl (.str _ (Nat.le_trans (joinT_len l ns) hz))
      | _ => cases e
/-! ### lists in slots -/
theorem slot_own {c : Cn} {H : Hp} {W : Own} {σ : L2.St} {r : Slots} {i : Nat} {bb : Bool} {l : List Sk.D} (R : Rel c H W σ r) (q : at_ r i = .own bb l) : r[i]? = some (.own bb l) ∧ ∃ a xs, σ[i]? = some (some (.ref a)) ∧ W a = some (.s i) ∧ H a = some (.lst xs) ∧ Rps c.K c.T H W xs l := by
  have e := at_some q (fun z => by cases z)
  obtain ⟨a, xs, es, w, hx, rx, _⟩ := R.slot i _ e
  exact ⟨e, a, xs, es, w, hx, rx⟩
theorem se_append {i : Nat} {x : Str} (hB : g.B) (hN : g.N[i]? = some x) (hv : Vis g.sc x) (ha : SE g a ea) (hd : (x == ("__debug__" : Str)) = false := by decide) (hcd : (x == ("__classdict__" : Str)) = false := by decide)
    (hbase : ∀ X, g.XP X → attributeBase (.Name x p) "append" X.env (eval (.Name x p) X.env) = eval (.Name x p) X.env := by intros; rfl)
    (hfew : ∀ X, g.XP X → ((backTo pos (starEach [a] X.env)).all (fun x => !x.1) && (backToKw pos (keywordEach [] X.env)).all (fun x => x.1.isSome) && decide ([a].length + ([] : List Keyword).length + (if ([] : List Keyword).isEmpty then 0 else 1) < 30)) = true := by intros; rfl)
    (hline : (apos.endLine == pos.line) = true := by rfl) (hs : ∀ X, g.XP X → starEach [a] X.env = (false, eval a X.env) :: starEach [] X.env := by intros; rfl) (hplain : ∀ X, g.XP X → (backTo pos (starEach [] X.env)).any (·.1) = false := by intros; rfl) :
    SE g (.Call (.Attribute (.Name x p) "append" apos) [a] [] pos) (eAppend i ea) := by
  obtain ⟨ta, pa, sa⟩ := ha
  refine ⟨tBM g.cn.K "list" rAppend (tVar i) (tCons ta tNil), fun X hx => ?_, fun σ r H W Q R h => ?_⟩
  · rw [← hB.K X hx]
    exact pe_bm PySem.F.plainAttrs_list PySem.F.slot_list_append PySem.F.type_list_append mt_append (pe_var (by rw [(hB X hx).N]; exact hN) (by rw [(hB X hx).sc]; exact hv) hd hcd) (pa_cons (pa X hx) pa_nil (hs X hx)) (hbase X hx) (hfew X hx) hline (hs X hx) (hplain X hx)
  · unfold eAppend at h
    cases q : at_ r i with
    | own bb l =>
      rw [q] at h
      obtain ⟨e0, ad, xs, es, w, hx, rx⟩ := slot_own R q
      show ∃ v, σ[i]? = some (some v) ∧ tyV g.cn.K "list" v H ∧ ta σ H fun y H2 => rAppend v [y] H2 Q
      refine ⟨_, es, .inl ⟨rfl, xs, SqL.of hx⟩, ?_⟩
      refine bindE (P := PoE g.cn σ Q) shE sa R h fun y r1 v H1 W1 f1 R1 rr1 h1 => ?_
      cases y with
      | ref k => exact False.elim h1
      | d y =>
        cases q1 : at_ r1 i with
        | own b2 l2 =>
          rw [q1] at h1
          obtain ⟨e1, ad1, xs1, es1, w1, hx1, rx1⟩ := slot_own R1 q1
          rw [es] at es1; cases es1
          have h1 : ResOk g.cn g.wx σ H1 W1 (PoE g.cn σ Q H1 W1) (if Fit1 l2.length then .ok (.d .non) (r1.set i (.own b2 (l2 ++ [y]))) else .bad) := h1
          split at h1
          · rename_i hz
            have rn : Rps g.cn.K g.cn.T H1 W1 (xs1 ++ [v]) (l2 ++ [y]) := rx1.app (.cons rr1 .nil)
            obtain ⟨f2, R2⟩ := R1.wrList e1 es rn
            exact ⟨ad, xs1, v, rfl, rfl, hx1, by rw [rx1.len, ← line_eq]; exact hz, h1 .non _ _ f2 R2 .non⟩
          · exact False.elim h1
        | un => rw [q1] at h1; exact False.elim h1
        | d z => rw [q1] at h1; exact False.elim h1
        | ins b2 n fs => rw [q1] at h1; exact False.elim h1
        | err n => rw [q1] at h1; exact False.elim h1
    | un => rw [q] at h; exact False.elim h
    | d z => rw [q] at h; exact False.elim h
    | ins b2 n fs => rw [q] at h; exact False.elim h
    | err n => rw [q] at h; exact False.elim h
theorem se_pop {i : Nat} {x : Str} (hB : g.B) (hN : g.N[i]? = some x) (hv : Vis g.sc x) (hd : (x == ("__debug__" : Str)) = false := by decide) (hcd : (x == ("__classdict__" : Str)) = false := by decide)
    (hbase : ∀ X, g.XP X → attributeBase (.Name x p) "pop" X.env (eval (.Name x p) X.env) = eval (.Name x p) X.env := by intros; rfl) (hline : (apos.endLine == pos.line) = true := by rfl) :
    SE g (.Call (.Attribute (.Name x p) "pop" apos) [] [] pos) (ePop i) := by
  refine ⟨tBM0 g.cn.K "list" rPop (tVar i), fun X hx => ?_, fun σ r H W Q R h => ?_⟩
  · rw [← hB.K X hx]
    exact pe_bm0 PySem.F.plainAttrs_list PySem.F.slot_list_pop PySem.F.type_list_pop mt_pop (pe_var (by rw [(hB X hx).N]; exact hN) (by rw [(hB X hx).sc]; exact hv) hd hcd) (hbase X hx) hline
  · unfold ePop at h
    cases q : at_ r i with
    | own bb l =>
      rw [q] at h
      obtain ⟨e0, ad, xs, es, w, hx, rx⟩ := slot_own R q
      show ∃ v, σ[i]? = some (some v) ∧ tyV g.cn.K "list" v H ∧ rPop v [] H Q
      refine ⟨_, es, .inl ⟨rfl, xs, SqL.of hx⟩, ?_⟩
      simp only at h
      cases q2 : l.getLast? with
      | none => rw [q2] at h; exact False.elim h
      | some z =>
        rw [q2] at h
        rw [List.getLast?_eq_getElem?] at q2
        obtain ⟨v, hv1, rv⟩ := rx.get q2
        obtain ⟨f2, R2⟩ := R.wrList e0 es rx.dropLast
        exact ⟨ad, xs, v, rfl, rfl, hx, by rw [rx.len]; exact hv1, h v _ _ f2 R2 (Rp.mv f2.mv rv)⟩
    | un => rw [q] at h; exact False.elim h
    | d z => rw [q] at h; exact False.elim h
    | ins b2 n fs => rw [q] at h; exact False.elim h
    | err n => rw [q] at h; exact False.elim h
theorem se_clear {i : Nat} {x : Str} (hB : g.B) (hN : g.N[i]? = some x) (hv : Vis g.sc x) (hd : (x == ("__debug__" : Str)) = false := by decide) (hcd : (x == ("__classdict__" : Str)) = false := by decide)
    (hbase : ∀ X, g.XP X → attributeBase (.Name x p) "clear" X.env (eval (.Name x p) X.env) = eval (.Name x p) X.env := by intros; rfl) (hline : (apos.endLine == pos.line) = true := by rfl) :
    SE g (.Call (.Attribute (.Name x p) "clear" apos) [] [] pos) (eClear i) := by
  refine ⟨tBM0 g.cn.K "list" rClear (tVar i), fun X hx => ?_, fun σ r H W Q R h => ?_⟩
  · rw [← hB.K X hx]
    exact pe_bm0 PySem.F.plainAttrs_list PySem.F.slot_list_clear PySem.F.type_list_clear mt_clear (pe_var (by rw [(hB X hx).N]; exact hN) (by rw [(hB X hx).sc]; exact hv) hd hcd) (hbase X hx) hline
  · unfold eClear at h
    cases q : at_ r i with
    | own bb l =>
      rw [q] at h
      obtain ⟨e0, ad, xs, es, w, hx, rx⟩ := slot_own R q
      show ∃ v, σ[i]? = some (some v) ∧ tyV g.cn.K "list" v H ∧ rClear v [] H Q
      refine ⟨_, es, .inl ⟨rfl, xs, SqL.of hx⟩, ?_⟩
      obtain ⟨f2, R2⟩ := R.wrList (l' := []) e0 es .nil
      exact ⟨ad, xs, rfl, rfl, hx, h .non _ _ f2 R2 .non⟩
    | un => rw [q] at h; exact False.elim h
    | d z => rw [q] at h; exact False.elim h
    | ins b2 n fs => rw [q] at h; exact False.elim h
    | err n => rw [q] at h; exact False.elim h
/-- xs.pop(0) -/
theorem se_pop0 {i : Nat} {x : Str} {j : Nat} {p0 : Pos} (hB : g.B) (hN : g.N[i]? = some x) (hv : Vis g.sc x) (hd : (x == ("__debug__" : Str)) = false := by decide) (hcd : (x == ("__classdict__" : Str)) = false := by decide)
    (hbase : ∀ X, g.XP X → attributeBase (.Name x p) "pop" X.env (eval (.Name x p) X.env) = eval (.Name x p) X.env := by intros; rfl) (hline : (apos.endLine == pos.line) = true := by rfl) :
    SE g (.Call (.Attribute (.Name x p) "pop" apos) [.Constant (.int 0) j p0] [] pos) (ePop0 i) := by
  refine ⟨tBM g.cn.K "list" rPopAt (tVar i) (tCons (tC (.int 0)) tNil), fun X hx => ?_, fun σ r H W Q R h => ?_⟩
  · rw [← hB.K X hx]
    exact pe_bm PySem.F.plainAttrs_list PySem.F.slot_list_pop PySem.F.type_list_pop mt_popAt (pe_var (by rw [(hB X hx).N]; exact hN) (by rw [(hB X hx).sc]; exact hv) hd hcd) (pa_cons pe_int pa_nil) (hbase X hx) (by rfl) hline
  · unfold ePop0 at h
    cases q : at_ r i with
    | own bb l =>
      rw [q] at h
      obtain ⟨e0, ad, xs, es, w, hx, rx⟩ := slot_own R q
      show ∃ v, σ[i]? = some (some v) ∧ tyV g.cn.K "list" v H ∧ rPopAt v [.int 0] H Q
      refine ⟨_, es, .inl ⟨rfl, xs, SqL.of hx⟩, ?_⟩
      cases l with
      | nil => exact False.elim h
      | cons z l =>
        cases rx with
        | cons r0 rt =>
          rename_i v vs
          obtain ⟨f2, R2⟩ := R.wrList e0 es rt
          exact ⟨ad, v :: vs, 0, 0, v, rfl, rfl, hx, by decide, by decide, by rw [PySem.StrLaws.seqIndex_nonneg (by decide) (by rw [List.length_cons]; omega)]; rfl, rfl, h v _ _ f2 R2 (Rp.mv f2.mv r0)⟩
    | un => rw [q] at h; exact False.elim h
    | d z => rw [q] at h; exact False.elim h
    | ins b2 n fs => rw [q] at h; exact False.elim h
    | err n => rw [q] at h; exact False.elim h
end
end SkS

namespace SkS
open PySem PySem.Spec PyProof.Rows L2 Sk
section
variable {c : Cn} {H H' : Hp} {W W' : Own} {σ : L2.St} {r : Slots}
/-! ### fields -/
theorem fld_d {i : Nat} {f : String} {x : Sk.D} : ∀ {vs : List (Str × V)} {fs : List (String × Sk.F)}, Flds c H W i vs fs → lookF fs f = some (.d x) → ∃ v, vs.lookup (Str.ofString f) = some v ∧ Rp c.K c.T H W v x
  | _, _, .nil, e => by cases e
  | _, _, .d (v := v) (n := n) (vs := vs) (fs := fs) r t, e => by
    unfold lookF at e
    rw [List.lookup_cons] at e ⊢
    by_cases q : f = n
    · subst q
      simp only [beq_self_eq_true] at e ⊢
      cases e
      exact ⟨v, rfl, r⟩
    · have h1 : (f == n) = false := beq_eq_false_iff_ne.mpr q
      have h2 : (Str.ofString f == Str.ofString n) = false := beq_eq_false_iff_ne.mpr fun z => q (str_inj z)
      rw [h1] at e
      rw [h2]
      exact fld_d t e
  | _, _, .own (n := n) w h r t, e => by
    unfold lookF at e
    rw [List.lookup_cons] at e ⊢
    by_cases q : f = n
    · subst q
      simp only [beq_self_eq_true] at e
      cases e
    · have h1 : (f == n) = false := beq_eq_false_iff_ne.mpr q
      have h2 : (Str.ofString f == Str.ofString n) = false := beq_eq_false_iff_ne.mpr fun z => q (str_inj z)
      rw [h1] at e
      rw [h2]
      exact fld_d t e
theorem fld_own {i : Nat} {f : String} {l : List Sk.D} : ∀ {vs : List (Str × V)} {fs : List (String × Sk.F)}, Flds c H W i vs fs → lookF fs f = some (.own l) → ∃ a xs, vs.lookup (Str.ofString f) = some (.ref a) ∧ W a = some (.f i f) ∧ H a = some (.lst xs) ∧ Rps c.K c.T H W xs l
  | _, _, .nil, e => by cases e
  | _, _, .d (v := v) (n := n) r t, e => by
    unfold lookF at e
    rw [List.lookup_cons] at e ⊢
    by_cases q : f = n
    · subst q
      simp only [beq_self_eq_true] at e
      cases e
    · have h1 : (f == n) = false := beq_eq_false_iff_ne.mpr q
      have h2 : (Str.ofString f == Str.ofString n) = false := beq_eq_false_iff_ne.mpr fun z => q (str_inj z)
      rw [h1] at e
      rw [h2]
      exact fld_own t e
  | _, _, .own (a := a) (xs := xs) (n := n) w h r t, e => by
    unfold lookF at e
    rw [List.lookup_cons] at e ⊢
    by_cases q : f = n
    · subst q
      simp only [beq_self_eq_true] at e ⊢
      cases e
      exact ⟨a, xs, rfl, w, h, r⟩
    · have h1 : (f == n) = false := beq_eq_false_iff_ne.mpr q
      have h2 : (Str.ofString f == Str.ofString n) = false := beq_eq_false_iff_ne.mpr fun z => q (str_inj z)
      rw [h1] at e
      rw [h2]
      exact fld_own t e
theorem fld_no {i : Nat} {f : String} : ∀ {vs : List (Str × V)} {fs : List (String × Sk.F)}, Flds c H W i vs fs → lookF fs f = none → vs.lookup (Str.ofString f) = none
  | _, _, .nil, _ => rfl
  | _, _, .d (n := n) r t, e => by
    unfold lookF at e
    rw [List.lookup_cons] at e ⊢
    by_cases q : f = n
    · subst q; simp only [beq_self_eq_true] at e; cases e
    · have h1 : (f == n) = false := beq_eq_false_iff_ne.mpr q
      have h2 : (Str.ofString f == Str.ofString n) = false := beq_eq_false_iff_ne.mpr fun z => q (str_inj z)
      rw [h1] at e
      rw [h2]
      exact fld_no t e
  | _, _, .own (n := n) w h r t, e => by
    unfold lookF at e
    rw [List.lookup_cons] at e ⊢
    by_cases q : f = n
    · subst q; simp only [beq_self_eq_true] at e; cases e
    · have h1 : (f == n) = false := beq_eq_false_iff_ne.mpr q
      have h2 : (Str.ofString f == Str.ofString n) = false := beq_eq_false_iff_ne.mpr fun z => q (str_inj z)
      rw [h1] at e
      rw [h2]
      exact fld_no t e
theorem rpf_d {f : String} {x : Sk.D} : ∀ {vs : List (Str × V)} {fs : List (String × Sk.D)}, Rpf c.K c.T H W vs fs → fs.lookup f = some x → ∃ v, vs.lookup (Str.ofString f) = some v ∧ Rp c.K c.T H W v x
  | _, _, .nil, e => by cases e
  | _, _, .cons (v := v) (n := n) r t, e => by
    rw [List.lookup_cons] at e ⊢
    by_cases q : f = n
    · subst q
      simp only [beq_self_eq_true] at e ⊢
      cases e
      exact ⟨v, rfl, r⟩
    · have h1 : (f == n) = false := beq_eq_false_iff_ne.mpr q
      have h2 : (Str.ofString f == Str.ofString n) = false := beq_eq_false_iff_ne.mpr fun z => q (str_inj z)
      rw [h1] at e
      rw [h2]
      exact rpf_d t e
theorem rpf_no {f : String} : ∀ {vs : List (Str × V)} {fs : List (String × Sk.D)}, Rpf c.K c.T H W vs fs → fs.lookup f = none → vs.lookup (Str.ofString f) = none
  | _, _, .nil, _ => rfl
  | _, _, .cons (n := n) r t, e => by
    rw [List.lookup_cons] at e ⊢
    by_cases q : f = n
    · subst q; simp only [beq_self_eq_true] at e; cases e
    · have h1 : (f == n) = false := beq_eq_false_iff_ne.mpr q
      have h2 : (Str.ofString f == Str.ofString n) = false := beq_eq_false_iff_ne.mpr fun z => q (str_inj z)
      rw [h1] at e
      rw [h2]
      exact rpf_no t e
theorem slot_ins {i : Nat} {b : Bool} {n : String} {fs : List (String × Sk.F)} (R : Rel c H W σ r) (q : at_ r i = .ins b n fs) : r[i]? = some (.ins b n fs) ∧ ∃ a C dx vs, σ[i]? = some (some (.ref a)) ∧ W a = some (.s i) ∧ c.T.cls n = some C ∧ H a = some (.ins C dx vs) ∧ Flds c H W i vs fs ∧ (fs.map (·.1)).Nodup ∧ Bor c i a b := by
  have e := at_some q (fun z => by cases z)
  exact ⟨e, R.slot i _ e⟩
/-- putting a field -/
theorem flds_put {i : Nat} {f : String} {v : V} {x : Sk.D} (rx : Rp c.K c.T H W v x) : ∀ {vs : List (Str × V)} {fs : List (String × Sk.F)}, Flds c H W i vs fs → Flds c H W i (L2.putF (Str.ofString f) v vs) (putFl f (.d x) fs)
  | _, _, .nil => .d rx .nil
  | _, _, .d (n := n) r t => by
    unfold L2.putF putFl
    by_cases q : n = f
    · subst q; rw [if_pos rfl, if_pos rfl]; exact .d rx t
    · rw [if_neg q, if_neg fun z => q (str_inj z)]; exact .d r (flds_put rx t)
  | _, _, .own (n := n) w h r t => by
    unfold L2.putF putFl
    by_cases q : n = f
    · subst q; rw [if_pos rfl, if_pos rfl]; exact .d rx t
    · rw [if_neg q, if_neg fun z => q (str_inj z)]; exact .own w h r (flds_put rx t)
theorem flds_putO {i : Nat} {f : String} {a : Addr} {xs : List V} {l : List Sk.D} (w : W a = some (.f i f)) (h : H a = some (.lst xs)) (rx : Rps c.K c.T H W xs l) : ∀ {vs : List (Str × V)} {fs : List (String × Sk.F)}, Flds c H W i vs fs → Flds c H W i (L2.putF (Str.ofString f) (.ref a) vs) (putFl f (.own l) fs)
  | _, _, .nil => .own w h rx .nil
  | _, _, .d (n := n) r t => by
    unfold L2.putF putFl
    by_cases q : n = f
    · subst q; rw [if_pos rfl, if_pos rfl]; exact .own w h rx t
    · rw [if_neg q, if_neg fun z => q (str_inj z)]; exact .d r (flds_putO w h rx t)
  | _, _, .own (n := n) w' h' r t => by
    unfold L2.putF putFl
    by_cases q : n = f
    · subst q; rw [if_pos rfl, if_pos rfl]; exact .own w h rx t
    · rw [if_neg q, if_neg fun z => q (str_inj z)]; exact .own w' h' r (flds_putO w h rx t)
theorem putFl_keys {f : String} {v : Sk.F} : ∀ {fs : List (String × Sk.F)}, (fs.map (·.1)).Nodup → ((putFl f v fs).map (·.1)).Nodup ∧ ∀ n, n ∈ (putFl f v fs).map (·.1) → n = f ∨ n ∈ fs.map (·.1)
  | [], _ => by simp [putFl]
  | (n, x) :: fs, h => by
    rw [List.map_cons, List.nodup_cons] at h
    unfold putFl
    by_cases q : n = f
    · subst q
      rw [if_pos rfl]
      refine ⟨by rw [List.map_cons, List.nodup_cons]; exact h, fun m hm => ?_⟩
      rw [List.map_cons] at hm
      rcases List.mem_cons.mp hm with e | e
      · exact .inl e
      · exact .inr (by rw [List.map_cons]; exact List.mem_cons_of_mem _ e)
    · rw [if_neg q]
      obtain ⟨h1, h2⟩ := putFl_keys (f := f) (v := v) h.2
      refine ⟨?_, fun m hm => ?_⟩
      · rw [List.map_cons, List.nodup_cons]
        refine ⟨fun z => ?_, h1⟩
        rcases h2 n z with e | e
        · exact q e
        · exact h.1 e
      · rw [List.map_cons] at hm
        rcases List.mem_cons.mp hm with e | e
        · exact .inr (by rw [List.map_cons, e]; exact List.mem_cons_self)
        · rcases h2 m e with e | e
          · exact .inl e
          · exact .inr (by rw [List.map_cons]; exact List.mem_cons_of_mem _ e)
theorem flds_len {i : Nat} : ∀ {vs : List (Str × V)} {fs : List (String × Sk.F)}, Flds c H W i vs fs → vs.length = fs.length
  | _, _, .nil => rfl
  | _, _, .d _ t => congrArg Nat.succ (flds_len t)
  | _, _, .own _ _ _ t => congrArg Nat.succ (flds_len t)
/-- the instance in slot i is written -/
theorem Rel.wrIns (R : Rel c H W σ r) {i : Nat} {b : Bool} {n : String} {fs fs' : List (String × Sk.F)} {a C dx : Addr} {vs vs' : List (Str × V)} (e : r[i]? = some (.ins b n fs)) (es : σ[i]? = some (some (.ref a))) (w : W a = some (.s i)) (hc : c.T.cls n = some C) (hx : H a = some (.ins C dx vs)) (hf : Flds c H W i vs' fs') (nd : (fs'.map (·.1)).Nodup) (bo : Bor c i a b) :
    Fr H W (upd H a (.ins C dx vs')) W ∧ Rel c (upd H a (.ins C dx vs')) W σ (r.set i (.ins b n fs')) := by
  have fr : Fr H W (upd H a (.ins C dx vs')) W := Fr.write w hx (fun _ z => by cases z) fun _ _ z => by cases z
  refine ⟨fr, ⟨by rw [R.len, List.length_set], fun j x ej => ?_, fun z q => ⟨fr.there _ (R.old z q).1, (R.old z q).2⟩, by rw [List.length_set]; exact R.tk⟩⟩
  by_cases hj : j = i
  · subst hj
    obtain rfl := getElem?_set_self' ej
    refine ⟨a, C, dx, vs', es, w, hc, upd_same, hf.mv fr.mv (fun y ys m wy hy => ⟨?_, wy⟩), nd, bo⟩
    rw [upd_ne fun z => by subst z; rw [w] at wy; cases wy]
    exact hy
  · rw [List.getElem?_set_ne (Ne.symm hj)] at ej
    refine (R.slot j x ej).mv fr.mv (fun z u wz q => ?_) fun z zs m wz q => ?_
    · have n : z ≠ a := fun e => by subst e; rw [w] at wz; cases wz; exact hj rfl
      rw [upd_ne n]; exact ⟨q, wz⟩
    · have n : z ≠ a := fun e => by subst e; rw [w] at wz; cases wz
      rw [upd_ne n]; exact ⟨q, wz⟩
theorem flds_far {i : Nat} {f : String} {a : Addr} {o : HO} (w : W a = some (.f i f)) (mv : Mv H W (upd H a o) W) : ∀ {vs : List (Str × V)} {fs : List (String × Sk.F)}, Flds c H W i vs fs → f ∉ fs.map (·.1) → Flds c (upd H a o) W i vs fs
  | _, _, .nil, _ => .nil
  | _, _, .d r t, h => by
    rw [List.map_cons, List.mem_cons, not_or] at h
    exact .d (r.mv mv) (flds_far w mv t h.2)
  | _, _, .own (a := b) (n := n) w' h' r t, h => by
    rw [List.map_cons, List.mem_cons, not_or] at h
    refine .own w' ?_ (r.mv mv) (flds_far w mv t h.2)
    rw [upd_ne fun z => by subst z; rw [w] at w'; cases w'; exact h.1 rfl]
    exact h'
/-- the fields where the list f is written at its own place -/
theorem flds_wr {i : Nat} {f : String} {a : Addr} {ys : List V} {l l' : List Sk.D} (w : W a = some (.f i f)) (hy : Rps c.K c.T (upd H a (.lst ys)) W ys l') (mv : Mv H W (upd H a (.lst ys)) W) : ∀ {vs : List (Str × V)} {fs : List (String × Sk.F)}, Flds c H W i vs fs → (fs.map (·.1)).Nodup → lookF fs f = some (.own l) → vs.lookup (Str.ofString f) = some (.ref a) →
    Flds c (upd H a (.lst ys)) W i vs (putFl f (.own l') fs)
  | _, _, .nil, _, h, _ => by cases h
  | _, _, .d (n := n) (vs := vs) (fs := fs) r t, nd, h, hv => by
    rw [List.map_cons, List.nodup_cons] at nd
    unfold putFl
    unfold lookF at h
    rw [List.lookup_cons] at h hv
    by_cases q : n = f
    · subst q
      simp only [beq_self_eq_true] at h
      cases h
    · rw [if_neg q]
      have h1 : (f == n) = false := beq_eq_false_iff_ne.mpr fun z => q z.symm
      have h2 : (Str.ofString f == Str.ofString n) = false := beq_eq_false_iff_ne.mpr fun z => q (str_inj z).symm
      rw [h1] at h
      rw [h2] at hv
      exact .d (r.mv mv) (flds_wr w hy mv t nd.2 h hv)
  | _, _, .own (a := b) (n := n) w' h' r t, nd, h, hv => by
    rw [List.map_cons, List.nodup_cons] at nd
    unfold putFl
    unfold lookF at h
    rw [List.lookup_cons] at h hv
    by_cases q : n = f
    · subst q
      simp only [beq_self_eq_true] at hv
      cases hv
      rw [if_pos rfl]
      exact .own w upd_same hy (flds_far w mv t nd.1)
    · rw [if_neg q]
      have h1 : (f == n) = false := beq_eq_false_iff_ne.mpr fun z => q z.symm
      have h2 : (Str.ofString f == Str.ofString n) = false := beq_eq_false_iff_ne.mpr fun z => q (str_inj z).symm
      rw [h1] at h
      rw [h2] at hv
      refine .own w' ?_ (r.mv mv) (flds_wr w hy mv t nd.2 h hv)
      rw [upd_ne fun z => by subst z; rw [w] at w'; cases w'; exact q rfl]
      exact h'
/-- the list in the field f of slot i is written -/
theorem Rel.wrFld (R : Rel c H W σ r) {i : Nat} {b : Bool} {n f : String} {fs : List (String × Sk.F)} {l l' : List Sk.D} {a ad C dx : Addr} {vs : List (Str × V)} {ys : List V} (e : r[i]? = some (.ins b n fs)) (es : σ[i]? = some (some (.ref a))) (w : W a = some (.s i)) (hc : c.T.cls n = some C) (hx : H a = some (.ins C dx vs)) (hf : Flds c H W i vs fs) (nd : (fs.map (·.1)).Nodup) (bo : Bor c i a b)
    (hl : lookF fs f = some (.own l)) (hv : vs.lookup (Str.ofString f) = some (.ref ad)) (wl : W ad = some (.f i f)) {xs : List V} (hxl : H ad = some (.lst xs)) (hy : Rps c.K c.T H W ys l') :
    Fr H W (upd H ad (.lst ys)) W ∧ Rel c (upd H ad (.lst ys)) W σ (r.set i (.ins b n (putFl f (.own l') fs))) := by
  have fr : Fr H W (upd H ad (.lst ys)) W := Fr.writeF wl hxl
  refine ⟨fr, ⟨by rw [R.len, List.length_set], fun j x ej => ?_, fun z q => ⟨fr.there _ (R.old z q).1, (R.old z q).2⟩, by rw [List.length_set]; exact R.tk⟩⟩
  by_cases hj : j = i
  · subst hj
    obtain rfl := getElem?_set_self' ej
    refine ⟨a, C, dx, vs, es, w, hc, ?_, flds_wr wl (hy.mv fr.mv) fr.mv hf nd hl hv, (putFl_keys nd).1, bo⟩
    rw [upd_ne fun z => by subst z; rw [wl] at w; cases w]
    exact hx
  · rw [List.getElem?_set_ne (Ne.symm hj)] at ej
    refine (R.slot j x ej).mv fr.mv (fun z u wz q => ?_) fun z zs m wz q => ?_
    · have n : z ≠ ad := fun e => by subst e; rw [wl] at wz; cases wz
      rw [upd_ne n]; exact ⟨q, wz⟩
    · have n : z ≠ ad := fun e => by subst e; rw [wl] at wz; cases wz; exact hj rfl
      rw [upd_ne n]; exact ⟨q, wz⟩
end
section
variable {g : Cxt} {a b e d : Expr} {es : List Expr} {ea eb ec ev : EV} {av : AV} {pos p apos : Pos}
/-- the class c of the text: f is an instance's own -/
structure FldOk (g : Cxt) (c f : String) : Prop where
  ok : ∀ C, g.cn.T.cls c = some C → Cls g.cn.K C ∧ NoAttr g.cn.K C (Str.ofString f)
theorem se_fld {c f : String} {fs : Str} (hB : g.B) (hf : fs = Str.ofString f) (K : FldOk g c f) (ha : SE g a ea) (hb : ∀ X, g.XP X → attributeBase a fs X.env (eval a X.env) = eval a X.env := by intros; rfl) : SE g (.Attribute a fs pos) (eFld c ea f) := by
  subst hf
  obtain ⟨ta, pa, sa⟩ := ha
  refine ⟨tFld g.cn.K ta (Str.ofString f), fun X hx => ?_, fun σ r H W Q R h => ?_⟩
  · rw [← hB.K X hx]; exact pe_fld (pa X hx) (hb X hx)
  · show ta σ H (fun x H1 => ∃ a C dx fs v, x = .ref a ∧ H1 a = some (.ins C dx fs) ∧ Cls g.cn.K C ∧ NoAttr g.cn.K C (Str.ofString f) ∧ fs.lookup (Str.ofString f) = some v ∧ Q v H1)
    refine bindE (P := PoE g.cn σ Q) shE sa R h fun x r1 v H1 W1 f1 R1 rr1 h1 => ?_
    cases x with
    | d x =>
      cases x with
      | obj c' fs =>
        simp only at h1
        split at h1
        · rename_i hc
          subst hc
          cases q : fs.lookup f with
          | none => rw [q] at h1; exact False.elim h1
          | some z =>
            rw [q] at h1
            cases rr1 with
            | obj hC hx w rf =>
              obtain ⟨v', hv, rv⟩ := rpf_d (c := g.cn) rf q
              obtain ⟨k1, k2⟩ := K.ok _ hC
              exact ⟨_, _, _, _, v', rfl, hx, k1, k2, hv, h1 v' H1 W1 Fr.refl R1 rv⟩
        · exact False.elim h1
      | _ => exact False.elim h1
    | ref i =>
      simp only at h1
      cases q : at_ r1 i with
      | ins b c' fs =>
        rw [q] at h1
        simp only at h1
        split at h1
        · rename_i hc
          subst hc
          obtain ⟨e0, ad, C, dx, vs, es, w, hC, hx, hf, nd, bo⟩ := slot_ins R1 q
          cases q2 : lookF fs f with
          | none => rw [q2] at h1; exact False.elim h1
          | some F =>
            rw [q2] at h1
            cases F with
            | own l => exact False.elim h1
            | d z =>
              obtain ⟨v', hv, rv⟩ := fld_d hf q2
              obtain ⟨k1, k2⟩ := K.ok _ hC
              have es' : σ[i]? = some (some v) := rr1
              rw [es] at es'; cases es'
              exact ⟨_, _, _, _, v', rfl, hx, k1, k2, hv, h1 v' H1 W1 Fr.refl R1 rv⟩
        · exact False.elim h1
      | un => rw [q] at h1; exact False.elim h1
      | d z => rw [q] at h1; exact False.elim h1
      | own b l => rw [q] at h1; exact False.elim h1
      | err n => rw [q] at h1; exact False.elim h1
/-- the field list's read: what follows where the object stands in slot i -/
theorem fldl_at {c f : String} {i : Nat} {l : List Sk.D} {σ : L2.St} {r : Slots} {H : Hp} {W : Own} (R : Rel g.cn H W σ r) (h : fldL c i f r = some l) :
    ∃ b fs a C dx vs ad xs, at_ r i = .ins b c fs ∧ r[i]? = some (.ins b c fs) ∧ σ[i]? = some (some (.ref a)) ∧ W a = some (.s i) ∧ g.cn.T.cls c = some C ∧ H a = some (.ins C dx vs) ∧ Flds g.cn H W i vs fs ∧ (fs.map (·.1)).Nodup ∧ Bor g.cn i a b ∧
      lookF fs f = some (.own l) ∧ vs.lookup (Str.ofString f) = some (.ref ad) ∧ W ad = some (.f i f) ∧ H ad = some (.lst xs) ∧ Rps g.cn.K g.cn.T H W xs l := by
  unfold fldL at h
  cases q : at_ r i with
  | ins b c' fs =>
    rw [q] at h
    simp only at h
    split at h
    · rename_i hc
      subst hc
      obtain ⟨e0, ad, C, dx, vs, es, w, hC, hx, hf, nd, bo⟩ := slot_ins R q
      cases q2 : lookF fs f with
      | none => rw [q2] at h; cases h
      | some F =>
        rw [q2] at h
        cases F with
        | d z => cases h
        | own l' =>
          cases h
          obtain ⟨al, xs, h1, h2, h3, h4⟩ := fld_own hf q2
          exact ⟨b, fs, ad, C, dx, vs, al, xs, rfl, e0, es, w, hC, hx, hf, nd, bo, q2, h1, h2, h3, h4⟩
    · cases h
  | un => rw [q] at h; cases h
  | d z => rw [q] at h; cases h
  | own b l => rw [q] at h; cases h
  | err n => rw [q] at h; cases h
theorem sem_fop {c f : String} {i : Nat} {tw : TE → TE} {op : Op1} (K : FldOk g c f) (k : ∀ te σ H (Q : VK), tw te σ H Q = te σ H fun x H1 => tw (fun _ _ Q' => Q' x H1) σ H1 Q)
    (hs : ∀ (σ : L2.St) (H : Hp) (W : Own) (x : V) (l : List Sk.D) (z : Sk.D) (Q : VK), Rv g.cn H W x (.lst l) → op (.lst l) = some z → (∀ w H' W', Tr g.cn H W H' W' → Rp g.cn.K g.cn.T H' W' w z → Q w H') → tw (fun _ _ Q' => Q' x H) σ H Q) : SemE g.cn g.wx (tw (tFld g.cn.K (tVar i) (Str.ofString f))) (eFOp c i f op) := by
  intro σ r H W Q R h
  unfold eFOp at h
  cases q : fldL c i f r with
  | none => rw [q] at h; exact False.elim h
  | some l =>
    rw [q] at h
    obtain ⟨b, fs, ad, C, dx, vs, al, xs, e1, e0, es, w, hC, hx, hf, nd, bo, q2, hv, wl, hl, rl⟩ := fldl_at R q
    obtain ⟨k1, k2⟩ := K.ok _ hC
    rw [k]
    refine ⟨_, es, ad, C, dx, vs, .ref al, rfl, hx, k1, k2, hv, ?_⟩
    simp only at h
    cases eo : op (.lst l) with
    | none => rw [eo] at h; exact False.elim h
    | some z =>
      rw [eo] at h
      exact hs σ H W _ l z Q (.own hl rl) eo fun w' H2 W2 t2 rp => h w' H2 W2 t2.1 (t2.2 σ r R) rp
/-- the read of self.f -/
theorem pe_self {i : Nat} {x : Str} {fs : Str} {X : Cx} (hB : g.B) (hx : g.XP X) (hN : g.N[i]? = some x) (hv : Vis g.sc x) (hd : (x == ("__debug__" : Str)) = false) (hcd : (x == ("__classdict__" : Str)) = false) : PE X (.Attribute (.Name x p) fs pos) (tFld g.cn.K (tVar i) fs) := by
  rw [← hB.K X hx]
  exact pe_fld (pe_var (by rw [(hB X hx).N]; exact hN) (by rw [(hB X hx).sc]; exact hv) hd hcd) rfl
theorem opNil_hs {σ : L2.St} {H : Hp} {W : Own} {x : V} {l : List Sk.D} {z : Sk.D} {Q : VK} (rx : Rv g.cn H W x (.lst l)) (e : opNil (.lst l) = some z) (k : ∀ w H' W', Tr g.cn H W H' W' → Rp g.cn.K g.cn.T H' W' w z → Q w H') : tOp rEqAll (fun _ _ Q' => Q' x H) (tLst tNil) σ H Q := by
  cases e
  obtain ⟨a, xs, e1, h1, r1⟩ := rx.lst
  subst e1
  show (0 : Nat) ≤ sizeLine ∧ ∀ p, H p = none → rEqAll (.ref a) (.ref p) (upd H p (.lst [])) Q
  refine ⟨Nat.zero_le _, fun p hp => .inr ⟨a, p, xs, [], rfl, rfl, ?_, upd_same, .inr rfl, ?_⟩⟩
  · rw [upd_ne (ne_of_none h1 hp)]; exact h1
  · have : decide (xs = [] ∧ ([] : List V) = []) = l.isEmpty := by
      cases r1 <;> simp
    rw [this]
    exact k _ _ _ (Tr.new (t := none) hp) (.bl _)
theorem se_fnil {c f : String} {i : Nat} {x fs : Str} {p2 : Pos} (hB : g.B) (hR : g.R) (hf : fs = Str.ofString f) (K : FldOk g c f) (hN : g.N[i]? = some x) (hv : Vis g.sc x) (hd : (x == ("__debug__" : Str)) = false := by decide) (hcd : (x == ("__classdict__" : Str)) = false := by decide) :
    SE g (.Compare (.Attribute (.Name x p) fs apos) [.Eq] [.List [] p2] pos) (eFNil c i f) := by
  subst hf
  exact ⟨_, fun X hx => pe_cmpR (op_eqAll (hR.un X hx)) (pe_self hB hx hN hv hd hcd) (pe_lst pa_nil) (nomark _), sem_fop (tw := fun te => tOp rEqAll te (tLst tNil)) K (fun _ _ _ _ => rfl) fun σ H W x l z Q rx e k => opNil_hs rx e k⟩
theorem st_fnil {c f : String} {i : Nat} {x fs : Str} {p2 : Pos} (hB : g.B) (hR : g.R) (hf : fs = Str.ofString f) (K : FldOk g c f) (hN : g.N[i]? = some x) (hv : Vis g.sc x) (hd : (x == ("__debug__" : Str)) = false := by decide) (hcd : (x == ("__classdict__" : Str)) = false := by decide) :
    STt g (.Compare (.Attribute (.Name x p) fs apos) [.Eq] [.List [] p2] pos) (eFNil c i f) := by
  subst hf
  exact ⟨_, fun X hx => pt_cmpR (op_eqAll (hR.un X hx)) (pe_self hB hx hN hv hd hcd) (pe_lst pa_nil) (nomark _), sem_test (sem_fop (tw := fun te => tOp rEqAll te (tLst tNil)) K (fun _ _ _ _ => rfl) fun σ H W x l z Q rx e k => opNil_hs rx e k)⟩
theorem se_flen {c f : String} {i : Nat} {x fs : Str} {p2 : Pos} (hB : g.B) (hf : fs = Str.ofString f) (K : FldOk g c f) (hN : g.N[i]? = some x) (hv : Vis g.sc x) (hg : g.sc.names.lookup ("len" : Str) = some .globalImplicit) (hm : Fre g "len") (hd : (x == ("__debug__" : Str)) = false := by decide) (hcd : (x == ("__classdict__" : Str)) = false := by decide)
    (he : ∀ X, g.XP X → starEach [.Attribute (.Name x p) fs apos] X.env = (false, eval (.Attribute (.Name x p) fs apos) X.env) :: starEach [] X.env := by intros; rfl) (hpl : ∀ X, g.XP X → (backTo pos (starEach [] X.env)).any (·.1) = false := by intros; rfl) :
    SE g (.Call (.Name "len" p2) [.Attribute (.Name x p) fs apos] [] pos) (eFLen c i f) := by
  subst hf
  exact ⟨tCB (rLenOf g.cn.K) (tCons (tFld g.cn.K (tVar i) (Str.ofString f)) tNil), fun X hx => pe_callB (id := "len") (by rw [← hB.K X hx]; exact call_len) (hB.gl hg X hx) (by rw [(hB X hx).mg]; exact hm) (by decide +kernel) (pa_cons (pe_self hB hx hN hv hd hcd) pa_nil (he X hx)) (by decide) (by decide) (he X hx) (hpl X hx),
    sem_fop (tw := fun te => tCB (rLenOf g.cn.K) (tCons te tNil)) K (fun _ _ _ _ => rfl) fun σ H W x l z Q rx e k => c1_len H W x _ z Q rx e k⟩
theorem se_ftup {c f : String} {i : Nat} {x fs : Str} {p2 : Pos} (hB : g.B) (hf : fs = Str.ofString f) (K : FldOk g c f) (hN : g.N[i]? = some x) (hv : Vis g.sc x) (hg : g.sc.names.lookup ("tuple" : Str) = some .globalImplicit) (hm : Fre g "tuple") (hd : (x == ("__debug__" : Str)) = false := by decide) (hcd : (x == ("__classdict__" : Str)) = false := by decide)
    (he : ∀ X, g.XP X → starEach [.Attribute (.Name x p) fs apos] X.env = (false, eval (.Attribute (.Name x p) fs apos) X.env) :: starEach [] X.env := by intros; rfl) (hpl : ∀ X, g.XP X → (backTo pos (starEach [] X.env)).any (·.1) = false := by intros; rfl) :
    SE g (.Call (.Name "tuple" p2) [.Attribute (.Name x p) fs apos] [] pos) (eFTup c i f) := by
  subst hf
  exact ⟨tCB (rTupOf g.cn.K) (tCons (tFld g.cn.K (tVar i) (Str.ofString f)) tNil), fun X hx => pe_callTy (T := "tuple") (by rw [← hB.K X hx]; exact call_tuple_of) (hB.gl hg X hx) (by rw [(hB X hx).mg]; exact hm) (by decide +kernel) (pa_cons (pe_self hB hx hN hv hd hcd) pa_nil (he X hx)) (by decide) (by decide) (he X hx) (hpl X hx),
    sem_fop (tw := fun te => tCB (rTupOf g.cn.K) (tCons te tNil)) K (fun _ _ _ _ => rfl) fun σ H W x l z Q rx e k => c1_tuple H W x _ z Q rx e k⟩
theorem se_fpop {c f : String} {i : Nat} {x fs : Str} {cpos : Pos} (hB : g.B) (hf : fs = Str.ofString f) (K : FldOk g c f) (hN : g.N[i]? = some x) (hv : Vis g.sc x) (hd : (x == ("__debug__" : Str)) = false := by decide) (hcd : (x == ("__classdict__" : Str)) = false := by decide)
    (hbase : ∀ X, g.XP X → attributeBase (.Attribute (.Name x p) fs pos) "pop" X.env (eval (.Attribute (.Name x p) fs pos) X.env) = eval (.Attribute (.Name x p) fs pos) X.env := by intros; rfl) (hline : (apos.endLine == cpos.line) = true := by rfl) :
    SE g (.Call (.Attribute (.Attribute (.Name x p) fs pos) "pop" apos) [] [] cpos) (eFPop c i f) := by
  subst hf
  refine ⟨tBM0 g.cn.K "list" rPop (tFld g.cn.K (tVar i) (Str.ofString f)), fun X hx => ?_, fun σ r H W Q R h => ?_⟩
  · rw [← hB.K X hx]
    refine pe_bm0 PySem.F.plainAttrs_list PySem.F.slot_list_pop PySem.F.type_list_pop mt_pop ?_ (hbase X hx) hline
    rw [hB.K X hx]
    exact pe_self hB hx hN hv hd hcd
  · unfold eFPop at h
    cases q : fldL c i f r with
    | none => rw [q] at h; exact False.elim h
    | some l =>
      rw [q] at h
      obtain ⟨b, fs, ad, C, dx, vs, al, xs, e1, e0, es, w, hC, hx, hf, nd, bo, q2, hv, wl, hl, rl⟩ := fldl_at R q
      obtain ⟨k1, k2⟩ := K.ok _ hC
      refine ⟨_, es, ad, C, dx, vs, .ref al, rfl, hx, k1, k2, hv, .inl ⟨rfl, xs, SqL.of hl⟩, ?_⟩
      simp only at h
      cases q3 : l.getLast? with
      | none => rw [q3] at h; exact False.elim h
      | some z =>
        rw [q3] at h
        rw [List.getLast?_eq_getElem?] at q3
        obtain ⟨v, hv1, rv⟩ := rl.get q3
        obtain ⟨f2, R2⟩ := R.wrFld (l' := l.dropLast) (ys := xs.dropLast) e0 es w hC hx hf nd bo q2 hv wl hl rl.dropLast
        have eset : setFL i f l.dropLast r = r.set i (.ins b c (putFl f (.own l.dropLast) fs)) := by unfold setFL; rw [e1]
        have h : ResOk g.cn g.wx σ H W (PoE g.cn σ Q H W) (.ok (.d z) (setFL i f l.dropLast r)) := h
        rw [eset] at h
        exact ⟨al, xs, v, rfl, rfl, hl, by rw [rl.len]; exact hv1, h v _ _ f2 R2 (Rp.mv f2.mv rv)⟩
end
end SkS

namespace SkS
open PySem PySem.Spec PyProof.Rows L2 Sk
/-! ### what a def promises, by its semantics -/
def cnOf (K : PySem.W.Frag) (T : Tab) (H : Hp) (W : Own) (vs : List V) : Cn := ⟨K, T, H, W, vs, none⟩
structure FrC (H : Hp) (W : Own) (H' : Hp) (W' : Own) : Prop where
  fr : Fr H W H' W'
  tok : ∀ a, H a ≠ none → W' a = W a
def OutsOk (c : Cn) (H : Hp) (W : Own) (outs : List Sk.A) : Prop := ∀ k a, outs[k]? = some a → (∀ x, a ≠ .d x) → AOk c H W k (c.vs.map some)[k]? a
def LowOk (c : Cn) (Q : VK) (E : XK) : FRes → Prop
  | .ok v outs => ∀ u H' W', FrC c.H0 c.W0 H' W' → RetOk c H' W' u v → OutsOk c H' W' outs → Q u H'
  | .exc n => ∀ C H' W', c.T.exc n = some C → FrC c.H0 c.W0 H' W' → E (.ref C) none H'
  | .bad => False
def lowSp (K : PySem.W.Frag) (T : Tab) (f : FSem) : Sp := fun vs H Q E => ∃ (W : Own) (as : List Sk.A), TokIn as.length W ∧ vs.length = as.length ∧ (∀ (k : Nat) a, as[k]? = some a → lentA a = true ∧ AOk (cnOf K T H W vs) H W k (vs.map some)[k]? a) ∧ LowOk (cnOf K T H W vs) Q E (f as)
/-- the place of a slot among the arguments -/
def argIx : List R → Nat → Option Nat
  | [], _ => none
  | .ref j :: xs, i => if j = i then some 0 else (argIx xs i).map (· + 1)
  | .d _ :: xs, i => (argIx xs i).map (· + 1)
theorem argIx_get : ∀ {xs : List R} {i k : Nat}, argIx xs i = some k → xs[k]? = some (.ref i)
  | [], _, _, h => by cases h
  | .ref j :: xs, i, k, h => by
    unfold argIx at h
    by_cases q : j = i
    · rw [if_pos q] at h; cases h; rw [q]; rfl
    · rw [if_neg q] at h
      obtain ⟨m, hm, rfl⟩ := Option.map_eq_some_iff.mp h
      exact (argIx_get (xs := xs) hm : xs[m]? = some (.ref i))
  | .d _ :: xs, i, k, h => by
    unfold argIx at h
    obtain ⟨m, hm, rfl⟩ := Option.map_eq_some_iff.mp h
    exact (argIx_get (xs := xs) hm : xs[m]? = some (.ref i))
theorem argIx_none : ∀ {xs : List R} {i : Nat}, argIx xs i = none ↔ i ∉ refsOf xs
  | [], _ => by simp [argIx, refsOf]
  | .ref j :: xs, i => by
    unfold argIx refsOf
    by_cases q : j = i
    · rw [if_pos q]; simp [q]
    · rw [if_neg q, Option.map_eq_none_iff, argIx_none, List.mem_cons, not_or]
      exact ⟨fun h => ⟨fun z => q z.symm, h⟩, fun h => h.2⟩
  | .d _ :: xs, i => by
    unfold argIx refsOf
    rw [Option.map_eq_none_iff, argIx_none]
theorem refs_mem : ∀ {xs : List R} {i k : Nat}, xs[k]? = some (.ref i) → i ∈ refsOf xs
  | [], _, _, h => by simp at h
  | .ref j :: xs, i, 0, h => by simp at h; subst h; exact List.mem_cons_self
  | .d _ :: xs, i, 0, h => by simp at h
  | .ref j :: xs, i, k + 1, h => List.mem_cons_of_mem _ (refs_mem (xs := xs) (k := k) (by simpa using h))
  | .d _ :: xs, i, k + 1, h => refs_mem (xs := xs) (k := k) (by simpa using h)
theorem argIx_of : ∀ {xs : List R} {i k : Nat}, (refsOf xs).Nodup → xs[k]? = some (.ref i) → argIx xs i = some k
  | [], _, _, _, h => by simp at h
  | .ref j :: xs, i, 0, _, h => by simp at h; subst h; unfold argIx; rw [if_pos rfl]
  | .d _ :: xs, i, 0, _, h => by simp at h
  | .ref j :: xs, i, k + 1, nd, h => by
    unfold refsOf at nd
    rw [List.nodup_cons] at nd
    have h' : xs[k]? = some (.ref i) := by simpa using h
    have : j ≠ i := fun e => nd.1 (by rw [e]; exact refs_mem h')
    unfold argIx
    rw [if_neg this, argIx_of nd.2 h']; rfl
  | .d _ :: xs, i, k + 1, nd, h => by
    have h' : xs[k]? = some (.ref i) := by simpa using h
    unfold argIx
    rw [argIx_of (xs := xs) nd h']; rfl
/-- the tokens ahead of a call, behind it -/
def callW (xs : List R) (W : Own) : Own := fun a => match W a with
  | none => none
  | some (.s i) => (match argIx xs i with
    | some k => some (.s k)
    | none => some .oth)
  | some (.f i n) => (match argIx xs i with
    | some k => some (.f k n)
    | none => some .oth)
  | some .tmp => some .oth
  | some .oth => some .oth
def backW (xs : List R) (H : Hp) (W W2 : Own) : Own := fun a => match H a with
  | some _ => W a
  | none => (match W2 a with
    | none => none
    | some (.f k n) => (match xs[k]? with
      | some (.ref i) => some (.f i n)
      | _ => some .tmp)
    | some _ => some .tmp)
theorem backW_old {xs : List R} {H : Hp} {W W2 : Own} {a : Addr} (h : H a ≠ none) : backW xs H W W2 a = W a := by
  unfold backW
  cases q : H a with
  | none => exact absurd q h
  | some o => rfl
theorem callW_none {xs : List R} {W : Own} {a : Addr} : callW xs W a = none ↔ W a = none := by
  unfold callW
  cases W a with
  | none => simp
  | some t => cases t with
    | s i => cases h : argIx xs i <;> simp [h]
    | f i n => cases h : argIx xs i <;> simp [h]
    | tmp => simp
    | oth => simp
theorem lends_get : ∀ {xs : List R} {r : Slots} {as : List Sk.A}, lends xs r = some as → xs.length = as.length ∧ ∀ (k : Nat) a, as[k]? = some a → ∃ x, xs[k]? = some x ∧ lend x r = some a
  | [], r, as, h => by cases h; exact ⟨rfl, fun k a e => by simp at e⟩
  | x :: xs, r, as, h => by
    unfold lends at h
    cases q : lend x r with
    | none => rw [q] at h; cases h
    | some a0 =>
      rw [q] at h
      simp only [Option.bind_some] at h
      cases q2 : lends xs r with
      | none => rw [q2] at h; cases h
      | some as' =>
        rw [q2] at h
        cases h
        obtain ⟨l1, l2⟩ := lends_get q2
        refine ⟨by simp [l1], fun k a e => ?_⟩
        cases k with
        | zero => simp at e; subst e; exact ⟨x, rfl, q⟩
        | succ k => simp at e; obtain ⟨y, h1, h2⟩ := l2 k a e; exact ⟨y, by simpa using h1, h2⟩
theorem at_set_ne {r : Slots} {i j : Nat} {a : Sk.A} (h : i ≠ j) : at_ (r.set i a) j = at_ r j := by
  unfold at_
  rw [List.getElem?_set_ne h]
theorem backs_get : ∀ {xs : List R} {outs : List Sk.A} {r r' : Slots}, (refsOf xs).Nodup → backs xs outs r = some r' → r'.length = r.length ∧ (∀ j, argIx xs j = none → r'[j]? = r[j]?) ∧
    ∀ j k, argIx xs j = some k → ∃ o a, outs[k]? = some o ∧ back1 (at_ r j) o = some a ∧ ∀ b, r'[j]? = some b → b = a
  | [], outs, r, r', _, h => by
    cases outs with
    | nil => cases h; exact ⟨rfl, fun _ _ => rfl, fun j k e => by cases e⟩
    | cons => cases h
  | .d x :: xs, [], r, r', _, h => by cases h
  | .ref i :: xs, [], r, r', _, h => by cases h
  | .d x :: xs, o :: os, r, r', nd, h => by
    obtain ⟨l, h1, h2⟩ := backs_get (xs := xs) (outs := os) nd h
    refine ⟨l, fun j e => h1 j ?_, fun j k e => ?_⟩
    · unfold argIx at e; exact Option.map_eq_none_iff.mp e
    · unfold argIx at e
      obtain ⟨m, hm, rfl⟩ := Option.map_eq_some_iff.mp e
      obtain ⟨o', a, q1, q2, q3⟩ := h2 j m hm
      exact ⟨o', a, by simpa using q1, q2, q3⟩
  | .ref i :: xs, o :: os, r, r', nd, h => by
    unfold refsOf at nd
    rw [List.nodup_cons] at nd
    have h' : (back1 (at_ r i) o).bind (fun a => backs xs os (r.set i a)) = some r' := h
    cases q : back1 (at_ r i) o with
    | none => rw [q] at h'; cases h'
    | some a =>
      rw [q] at h'
      simp only [Option.bind_some] at h'
      obtain ⟨l, h1, h2⟩ := backs_get (xs := xs) nd.2 h'
      refine ⟨by rw [l, List.length_set], fun j e => ?_, fun j k e => ?_⟩
      · unfold argIx at e
        by_cases z : i = j
        · rw [if_pos z] at e; cases e
        · rw [if_neg z] at e
          rw [h1 j (Option.map_eq_none_iff.mp e), List.getElem?_set_ne z]
      · unfold argIx at e
        by_cases z : i = j
        · subst z
          rw [if_pos rfl] at e; cases e
          refine ⟨o, a, rfl, q, fun b hb => ?_⟩
          rw [h1 i (argIx_none.mpr nd.1)] at hb
          exact getElem?_set_self' hb
        · rw [if_neg z] at e
          obtain ⟨m, hm, rfl⟩ := Option.map_eq_some_iff.mp e
          obtain ⟨o', a', q1, q2, q3⟩ := h2 j m hm
          rw [at_set_ne z] at q2
          exact ⟨o', a', by simpa using q1, q2, q3⟩
theorem lost_get : ∀ {xs : List R} {r : Slots}, (lost xs r).length = r.length ∧ (∀ j, argIx xs j = none → (lost xs r)[j]? = r[j]?) ∧ ∀ j b, argIx xs j ≠ none → (lost xs r)[j]? = some b → b = .un
  | [], r => ⟨rfl, fun _ _ => rfl, fun j b e => absurd rfl e⟩
  | .d x :: xs, r => by
    obtain ⟨l, h1, h2⟩ := lost_get (xs := xs) (r := r)
    refine ⟨l, fun j e => h1 j (Option.map_eq_none_iff.mp e), fun j b e => h2 j b fun z => e (Option.map_eq_none_iff.mpr z)⟩
  | .ref i :: xs, r => by
    obtain ⟨l, h1, h2⟩ := lost_get (xs := xs) (r := r.set i .un)
    refine ⟨by show (lost xs (r.set i .un)).length = _; rw [l, List.length_set], fun j e => ?_, fun j b e hb => ?_⟩
    · unfold argIx at e
      by_cases z : i = j
      · rw [if_pos z] at e; cases e
      · rw [if_neg z] at e
        show (lost xs (r.set i .un))[j]? = _
        rw [h1 j (Option.map_eq_none_iff.mp e), List.getElem?_set_ne z]
    · have hb : (lost xs (r.set i .un))[j]? = some b := hb
      by_cases z : argIx xs j = none
      · unfold argIx at e
        by_cases y : i = j
        · subst y
          rw [h1 i z] at hb
          exact getElem?_set_self' hb
        · rw [if_neg y, z] at e; exact absurd rfl e
      · exact h2 j b z hb
section
variable {c : Cn} {wx : WX} {H H' : Hp} {W W' W2 : Own} {σ : L2.St} {r r' : Slots} {xs : List R} {vs : List V}
theorem paired_get {α β : Type} {F : α → β → Prop} : ∀ {vs : List α} {xs : List β} {k : Nat} {x : β}, Paired F vs xs → xs[k]? = some x → ∃ v, vs[k]? = some v ∧ F v x
  | _, _, _, _, .nil, e => by simp at e
  | _, _, 0, _, .cons p q, e => by simp at e; subst e; exact ⟨_, rfl, p⟩
  | _, _, k + 1, x, .cons p q, e => by
    obtain ⟨v, h1, h2⟩ := paired_get (k := k) (x := x) q (by simpa using e)
    exact ⟨v, by simpa using h1, h2⟩
def RetV (c : Cn) (H : Hp) (H' : Hp) (W' : Own) (u : V) : RV → Prop
  | .d x => Rp c.K c.T H' W' u x
  | .own l => ∃ a xs, u = .ref a ∧ H a = none ∧ W' a = some .tmp ∧ H' a = some (.lst xs) ∧ Rps c.K c.T H' W' xs l
  | .ins _ _ => False
theorem callW_mv : Mv H W H (callW xs W) := ⟨fun a o q w => ⟨q, callW_none.mpr w⟩, fun _ _ q => q, fun _ _ _ q => q⟩
theorem flds_call {i k : Nat} (h : argIx xs i = some k) {vs' : List V} : ∀ {ws : List (Str × V)} {fs : List (String × Sk.F)}, Flds c H W i ws fs → Flds (cnOf c.K c.T H (callW xs W) vs') H (callW xs W) k ws fs
  | _, _, .nil => .nil
  | _, _, .d r t => .d (r.mv callW_mv) (flds_call h t)
  | _, _, .own w hx r t => by
    refine .own ?_ hx (r.mv callW_mv) (flds_call h t)
    unfold callW
    rw [w]
    simp only [h]
/-- the arguments, as the callee has them -/
theorem args_ok (R : Rel c H W σ r) (rr : Paired (RR c H W σ) vs xs) (nd : (refsOf xs).Nodup) {as : List Sk.A} (hl : lends xs r = some as) :
    vs.length = as.length ∧ ∀ (k : Nat) a, as[k]? = some a → lentA a = true ∧ AOk (cnOf c.K c.T H (callW xs W) vs) H (callW xs W) k (vs.map some)[k]? a := by
  obtain ⟨l1, l2⟩ := lends_get hl
  refine ⟨(Paired.length rr).trans l1, fun k a e => ?_⟩
  obtain ⟨x, hx, hle⟩ := l2 k a e
  obtain ⟨v, hv, rv⟩ := paired_get rr hx
  have hvs : (vs.map some)[k]? = some (some v) := by rw [List.getElem?_map, hv]; rfl
  cases x with
  | d x =>
    cases hle
    exact ⟨rfl, v, hvs, Rp.mv callW_mv rv⟩
  | ref i =>
    have hle : (match at_ r i with
      | .own _ l => some (Sk.A.own true l)
      | .ins _ c fs => some (Sk.A.ins true c fs)
      | _ => none) = some a := hle
    have ix := argIx_of nd hx
    have es' : σ[i]? = some (some v) := rv
    cases q : at_ r i with
    | own b l =>
      rw [q] at hle; cases hle
      obtain ⟨e0, ad, ys, es, w, hy, ry⟩ := slot_own R q
      rw [es] at es'; cases es'
      refine ⟨rfl, ad, ys, hvs, ?_, hy, ry.mv callW_mv, ?_⟩
      · unfold callW; rw [w]; simp only [ix]
      · unfold Bor; rw [if_pos rfl]; exact hv
    | ins b n fs =>
      rw [q] at hle; cases hle
      obtain ⟨e0, ad, C, dx, ws, es, w, hC, hy, hf, ndf, bo⟩ := slot_ins R q
      rw [es] at es'; cases es'
      refine ⟨rfl, ad, C, dx, ws, hvs, ?_, hC, hy, flds_call ix hf, ndf, ?_⟩
      · unfold callW; rw [w]; simp only [ix]
      · unfold Bor; rw [if_pos rfl]; exact hv
    | un => rw [q] at hle; cases hle
    | d z => rw [q] at hle; cases hle
    | err n => rw [q] at hle; cases hle
theorem backW_mv (fc : FrC H (callW xs W) H' W2) : Mv H' W2 H' (backW xs H W W2) := by
  refine ⟨fun a o q w => ⟨q, ?_⟩, fun _ _ q => q, fun _ _ _ q => q⟩
  unfold backW
  cases e : H a with
  | none => simp only [w]
  | some u =>
    have := fc.tok a (by rw [e]; exact fun z => by cases z)
    rw [w] at this
    exact callW_none.mp this.symm
theorem back_fr (fc : FrC H (callW xs W) H' W2) : Fr H W H' (backW xs H W W2) := by
  refine ⟨fun a o q w => ⟨?_, backW_old (by rw [q]; exact fun z => by cases z)⟩, fc.fr.there, fc.fr.tup, fc.fr.frz⟩
  refine (fc.fr.keep a o q ?_).1
  rcases w with w | w | w
  · exact .inl (callW_none.mpr w)
  · exact .inr (.inr (by unfold callW; rw [w]))
  · exact .inr (.inr (by unfold callW; rw [w]))
/-- a slot that was not handed in -/
theorem back_far (fc : FrC H (callW xs W) H' W2) {j : Nat} (hj : argIx xs j = none) {v : Option (Option V)} {a : Sk.A} (h : AOk c H W j v a) : AOk c H' (backW xs H W W2) j v a := by
  refine h.mv (back_fr fc).mv (fun x o w q => ?_) (fun x ys n w q => ?_)
  · refine ⟨(fc.fr.keep x o q (.inr (.inr (by unfold callW; rw [w]; simp only [hj])))).1, ?_⟩
    rw [backW_old (by rw [q]; exact fun z => by cases z)]; exact w
  · refine ⟨(fc.fr.keep x _ q (.inr (.inr (by unfold callW; rw [w]; simp only [hj])))).1, ?_⟩
    rw [backW_old (by rw [q]; exact fun z => by cases z)]; exact w
theorem flds_back {j k : Nat} (fc : FrC H (callW xs W) H' W2) (nd : (refsOf xs).Nodup) (h : argIx xs j = some k) {vs' : List V} : ∀ {ws : List (Str × V)} {fs : List (String × Sk.F)}, Flds (cnOf c.K c.T H (callW xs W) vs') H' W2 k ws fs → Flds c H' (backW xs H W W2) j ws fs
  | _, _, .nil => .nil
  | _, _, .d r t => .d (r.mv (backW_mv fc)) (flds_back fc nd h t)
  | _, _, .own (a := al) (n := n) w hx r t => by
    refine .own ?_ hx (r.mv (backW_mv fc)) (flds_back fc nd h t)
    unfold backW
    cases e : H al with
    | none => simp only [w, argIx_get h]
    | some u =>
      have := fc.tok al (by rw [e]; exact fun z => by cases z)
      rw [w] at this
      show W al = _
      unfold callW at this
      cases q : W al with
      | none => rw [q] at this; cases this
      | some tk =>
        rw [q] at this
        cases tk with
        | s i => simp only at this; cases q2 : argIx xs i <;> rw [q2] at this <;> cases this
        | f i m =>
          simp only at this
          cases q2 : argIx xs i with
          | none => rw [q2] at this; cases this
          | some k' =>
            rw [q2] at this
            cases this
            have h1 := argIx_get q2
            have h2 := argIx_get h
            rw [h1] at h2
            cases h2
            rfl
        | tmp => cases this
        | oth => cases this
theorem back_tok (R : Rel c H W σ r) (rr : Paired (RR c H W σ) vs xs) : TokIn r.length (backW xs H W W2) := fun a i => by
  unfold backW
  cases e : H a with
  | some o => exact R.tk a i
  | none =>
    simp only
    cases e2 : W2 a with
    | none => exact ⟨(fun z => by cases z), (fun _ z => by cases z)⟩
    | some t =>
      cases t with
      | f k n =>
        simp only
        cases e3 : xs[k]? with
        | none => exact ⟨(fun z => by cases z), (fun _ z => by cases z)⟩
        | some x =>
          cases x with
          | d x => exact ⟨(fun z => by cases z), (fun _ z => by cases z)⟩
          | ref j =>
            refine ⟨(fun z => by cases z), (fun f z => ?_)⟩
            cases z
            obtain ⟨v, hv, rv⟩ := paired_get rr e3
            have es : σ[i]? = some (some v) := rv
            rw [← R.len]
            exact (List.getElem?_eq_some_iff.mp es).1
      | _ => exact ⟨(fun z => by cases z), (fun _ z => by cases z)⟩
theorem back_rel (R : Rel c H W σ r) (rr : Paired (RR c H W σ) vs xs) (nd : (refsOf xs).Nodup) (fc : FrC H (callW xs W) H' W2) {outs : List Sk.A} (ho : OutsOk (cnOf c.K c.T H (callW xs W) vs) H' W2 outs) (hb : backs xs outs r = some r') : Rel c H' (backW xs H W W2) σ r' := by
  obtain ⟨l, h1, h2⟩ := backs_get nd hb
  refine ⟨R.len.trans l.symm, fun j a e => ?_, fun a q => ⟨fc.fr.there a (R.old a q).1, ?_⟩, by rw [l]; exact back_tok R rr⟩
  · cases ij : argIx xs j with
    | none => rw [h1 j ij] at e; exact back_far fc ij (R.slot j a e)
    | some k =>
      obtain ⟨o, a', ho1, ho2, ho3⟩ := h2 j k ij
      obtain rfl := ho3 a e
      obtain ⟨v, hv, rv⟩ := paired_get rr (argIx_get ij)
      have es' : σ[j]? = some (some v) := rv
      have hvs : (vs.map some)[k]? = some (some v) := by rw [List.getElem?_map, hv]; rfl
      cases q : at_ r j with
      | own b l0 =>
        obtain ⟨e0, ad, ys, es, w, hy, ry⟩ := slot_own R q
        obtain ⟨ad0, _, es0, _, _, _, bo⟩ := R.slot j _ e0
        rw [es] at es0; cases es0
        rw [es] at es'; cases es'
        rw [q] at ho2
        cases o with
        | own b2 l2 =>
          cases b2 with
          | true =>
            cases ho2
            obtain ⟨ad', zs, z1, z2, z3, z4, z5⟩ := ho k _ ho1 (fun x z => by cases z)
            have z1 : (vs.map some)[k]? = some (some (.ref ad')) := z1
            rw [hvs] at z1; cases z1
            refine ⟨ad, zs, es, ?_, z3, z4.mv (backW_mv fc), bo⟩
            rw [backW_old (by rw [hy]; exact fun z => by cases z)]; exact w
          | false => cases ho2
        | _ => cases ho2
      | ins b n fs =>
        obtain ⟨e0, ad, C, dx, ws, es, w, hC, hy, hf, ndf, bo⟩ := slot_ins R q
        rw [es] at es'; cases es'
        rw [q] at ho2
        cases o with
        | ins b2 n2 fs2 =>
          cases b2 with
          | true =>
            have hq : (if n = n2 then some (Sk.A.ins b n fs2) else none) = some a := ho2
            by_cases hn : n = n2
            · rw [if_pos hn] at hq
              subst hn
              obtain rfl : Sk.A.ins b n fs2 = a := Option.some.inj hq
              obtain ⟨ad', C', dx', ws', z1, z2, z3, z4, z5, z6, z7⟩ := ho k _ ho1 (fun x z => by cases z)
              have z1 : (vs.map some)[k]? = some (some (.ref ad')) := z1
              rw [hvs] at z1; cases z1
              refine ⟨ad, C', dx', ws', es, ?_, z3, z4, flds_back fc nd ij z5, z6, bo⟩
              rw [backW_old (by rw [hy]; exact fun z => by cases z)]; exact w
            · rw [if_neg hn] at hq; cases hq
          | false => cases ho2
        | _ => cases ho2
      | un => rw [q] at ho2; cases ho2
      | d z => rw [q] at ho2; cases ho2
      | err n => rw [q] at ho2; cases ho2
  · rw [backW_old (R.old a q).1]; exact (R.old a q).2
theorem lost_rel (R : Rel c H W σ r) (rr : Paired (RR c H W σ) vs xs) (fc : FrC H (callW xs W) H' W2) : Rel c H' (backW xs H W W2) σ (lost xs r) := by
  obtain ⟨l, h1, h2⟩ := lost_get (xs := xs) (r := r)
  refine ⟨R.len.trans l.symm, fun j a e => ?_, fun a q => ⟨fc.fr.there a (R.old a q).1, ?_⟩, by rw [l]; exact back_tok R rr⟩
  · cases ij : argIx xs j with
    | none => rw [h1 j ij] at e; exact back_far fc ij (R.slot j a e)
    | some k =>
      have := h2 j a (by rw [ij]; exact fun z => by cases z) e
      subst this
      trivial
  · rw [backW_old (R.old a q).1]; exact (R.old a q).2
theorem callW_tok {n : Nat} (h : xs.length = n) : TokIn n (callW xs W) := fun a i => by
  subst h
  have key : ∀ {i k : Nat}, argIx xs i = some k → k < xs.length := fun e => (List.getElem?_eq_some_iff.mp (argIx_get e)).1
  unfold callW
  cases W a with
  | none => exact ⟨(fun z => by cases z), (fun _ z => by cases z)⟩
  | some t =>
    cases t with
    | s j =>
      cases e : argIx xs j with
      | none => simp only [e]; exact ⟨(fun z => by cases z), (fun _ z => by cases z)⟩
      | some k => simp only [e]; exact ⟨(fun z => by cases z; exact key e), (fun _ z => by cases z)⟩
    | f j n =>
      cases e : argIx xs j with
      | none => simp only [e]; exact ⟨(fun z => by cases z), (fun _ z => by cases z)⟩
      | some k => simp only [e]; exact ⟨(fun z => by cases z), (fun _ z => by cases z; exact key e)⟩
    | tmp => exact ⟨(fun z => by cases z), (fun _ z => by cases z)⟩
    | oth => exact ⟨(fun z => by cases z), (fun _ z => by cases z)⟩
/-- a call by values -/
theorem call_low {f : FSem} {Q : VK} (R : Rel c H W σ r) (rr : Paired (RR c H W σ) vs xs) (h : ResOk c wx σ H W (fun v r' => ∀ u H' W', Fr H W H' W' → Rel c H' W' σ r' → RetV c H H' W' u v → Q u H') (callV f xs r)) : lowSp c.K c.T f vs H Q (WE wx σ) := by
  unfold callV at h
  split at h
  · rename_i nd
    cases hl : lends xs r with
    | none => rw [hl] at h; exact False.elim h
    | some as =>
      rw [hl] at h
      obtain ⟨l, ha⟩ := args_ok R rr nd hl
      refine ⟨callW xs W, as, callW_tok (lends_get hl).1, l, ha, ?_⟩
      simp only at h
      cases hf : f as with
      | bad => rw [hf] at h; exact h
      | exc n =>
        rw [hf] at h
        intro C H' W2 hC fc
        exact h C H' (backW xs H W W2) hC (back_fr fc) (lost_rel R rr fc)
      | ok v outs =>
        rw [hf] at h
        intro u H' W2 fc ret ho
        rw [callK_ok] at h
        cases hb : backs xs outs r with
        | none => rw [hb] at h; exact False.elim h
        | some r' =>
          rw [hb] at h
          refine h u H' (backW xs H W W2) (back_fr fc) (back_rel R rr nd fc ho hb) ?_
          cases v with
          | d x => exact Rp.mv (backW_mv fc) ret
          | own l =>
            obtain ⟨a, ys, e1, e2, e3, e4, e5⟩ := ret
            have e2 : H a = none := e2
            refine ⟨a, ys, e1, e2, ?_, e4, e5.mv (backW_mv fc)⟩
            unfold backW; rw [e2]; simp only [e3]
          | ins n fs => exact ret
  · exact False.elim h
end
end SkS

namespace SkS
open PySem PySem.Spec PyProof.Rows L2 Sk
section
variable {g : Cxt} {a b e d : Expr} {es : List Expr} {ea eb ec ev : EV} {av : AV} {pos p apos : Pos}
/-- a def of the module, known by its semantics -/
structure Cal (g : Cxt) (x : Str) (f : FSem) : Prop where
  ex : ∃ (k : Nat) (a : Addr) (fd : FuncData) (ps : List Str), k ≤ g.k ∧ FnOk g.P g.w g.cn.K g.mg g.base (L2.CX g.P g.w) k a fd ps (lowSp g.cn.K g.cn.T f) ∧ g.mg x = some (.ref a) ∧ PySem.W.keepIn g.cn.K (.ref a) = true ∧ Binds g.cn.K fd ps []
abbrev PoV (c : Cn) (σ : L2.St) (Q : VK) (H : Hp) (W : Own) : RV → Slots → Prop := fun v r' => ∀ u H' W', Fr H W H' W' → Rel c H' W' σ r' → RetV c H H' W' u v → Q u H'
/-- behind a call whose value is read as data -/
theorem retD {c : Cn} {σ : L2.St} {r' : Slots} {H H' : Hp} {W W' : Own} {u : V} {v : RV} {Q : VK} (f : Fr H W H' W') (old : ∀ a, c.H0 a ≠ none → H a ≠ none) (R : Rel c H' W' σ r') (rv : RetV c H H' W' u v) (k : PoE c σ Q H W (.d v.toD) r') : Q u H' := by
  cases v with
  | d x => exact k u H' W' f R rv
  | ins n fs => exact False.elim rv
  | own l =>
    obtain ⟨a, xs, rfl, n, wt, hx, rx⟩ := rv
    have mv : Mv H' W' H' (setW W' a none) := ⟨fun b o q k => ⟨q, by
      by_cases z : b = a
      · rw [z, setW_same]
      · rw [setW_ne z]; exact k⟩, fun _ _ q => q, fun _ _ _ q => q⟩
    have R2 : Rel c H' (setW W' a none) σ r' := by
      refine ⟨R.len, fun i u ei => (R.slot i u ei).mv mv (fun y o w q => ⟨q, ?_⟩) (fun y ys m w q => ⟨q, ?_⟩), fun z q => ⟨(R.old z q).1, ?_⟩, R.tk.none⟩
      · rw [setW_ne fun z => by subst z; rw [wt] at w; cases w]; exact w
      · rw [setW_ne fun z => by subst z; rw [wt] at w; cases w]; exact w
      · rw [setW_ne fun y => by subst y; exact old _ q n]; exact (R.old z q).2
    exact k (.ref a) H' (setW W' a none) (f.newTag n) R2 (.lst hx setW_same (rx.mv mv))
theorem bindV {β : Type} {c : Cn} {wx : WX} {σ : L2.St} {H : Hp} {W : Own} {x : Res RV} {f : RV → Slots → Res β} {P : β → Slots → Prop} (h : ResOk c wx σ H W P (x.bind f)) : ResOk c wx σ H W (fun v r' => ResOk c wx σ H W P (f v r')) x := by
  cases x with
  | ok v r => exact h
  | exc n r => exact h
  | bad => exact h
theorem ResOk.imp {β : Type} {c : Cn} {wx : WX} {σ : L2.St} {H : Hp} {W : Own} {x : Res β} {P P' : β → Slots → Prop} (h : ResOk c wx σ H W P x) (k : ∀ b r, P b r → P' b r) : ResOk c wx σ H W P' x := by
  cases x with
  | ok v r => exact k _ _ h
  | exc n r => exact h
  | bad => exact h
theorem Cxt.R.tk (h : g.R) : ∀ X, g.XP X → Takes X g.wx := fun X x => (h X x).tk
theorem pe_callG {x : Str} {f : FSem} {ta : TA} {X : Cx} (hB : g.B) (hR : g.R) (hx : g.XP X) (hg : g.sc.names.lookup x = some .globalImplicit) {k : Nat} {ad : Addr} {fd : FuncData} {ps : List Str} (hk : k ≤ g.k) (F : FnOk g.P g.w g.cn.K g.mg g.base (L2.CX g.P g.w) k ad fd ps (lowSp g.cn.K g.cn.T f)) (hm : g.mg x = some (.ref ad)) (kp : PySem.W.keepIn g.cn.K (.ref ad) = true) (bi : Binds g.cn.K fd ps [])
    (pa : PA X (e :: es) ta) (hdb : (x == ("__debug__" : Str)) = false) (he : starEach (e :: es) X.env = (false, eval e X.env) :: starEach es X.env) (hpl : (backTo pos (starEach es X.env)).any (·.1) = false) :
    PE X (.Call (.Name x p) (e :: es) [] pos) (tCallS (lowSp g.cn.K g.cn.T f) (WE g.wx) ta) := by
  have B := hB X hx
  have F2 : FnOk X.prog X.w X.K X.mg X.base (L2.CX X.prog X.w) k ad fd ps (lowSp g.cn.K g.cn.T f) := by rw [B.P, B.w, B.K, B.mg, B.base]; exact F
  exact pe_callS F2 ((hR X hx).room.mono hk) (hB.gl hg X hx) (by rw [B.mg]; exact hm) (by rw [B.K]; exact kp) (by rw [B.K]; exact bi) (fun σ => passAt (hR.tk X hx) σ) pa hdb he hpl
theorem se_call {x : Str} {f : FSem} (hB : g.B) (hR : g.R) (C : Cal g x f) (hg : g.sc.names.lookup x = some .globalImplicit) (ha : SA g (e :: es) av)
    (hdb : (x == ("__debug__" : Str)) = false := by decide) (he : ∀ X, g.XP X → starEach (e :: es) X.env = (false, eval e X.env) :: starEach es X.env := by intros; rfl) (hpl : ∀ X, g.XP X → (backTo pos (starEach es X.env)).any (·.1) = false := by intros; rfl) :
    SE g (.Call (.Name x p) (e :: es) [] pos) (eCall f av) := by
  obtain ⟨k, ad, fd, ps, hk, F, hm, kp, bi⟩ := C.ex
  obtain ⟨ta, pa, sa⟩ := ha
  refine ⟨_, fun X hx => pe_callG hB hR hx hg hk F hm kp bi (pa X hx) hdb (he X hx) (hpl X hx), fun σ r H W Q R h => ?_⟩
  show ta σ H (fun vs H1 => lowSp g.cn.K g.cn.T f vs H1 Q (WE g.wx σ))
  refine bindA (P := PoE g.cn σ Q) shE sa R h fun xs r1 vs H1 W1 f1 R1 rr1 h1 => ?_
  refine call_low (wx := g.wx) R1 rr1 ((bindV h1).imp fun v r' hv u H2 W2 f2 R2 rv => ?_)
  exact retD f2 (fun a q => (R1.old a q).1) R2 rv hv
/-! ### methods -/
structure MCal (g : Cxt) (c : String) (m : Str) (f : FSem) : Prop where
  ex : ∀ C, g.cn.T.cls c = some C → ∃ (k : Nat) (a : Addr) (fd : FuncData) (ps : List Str), k ≤ g.k ∧ FnOk g.P g.w g.cn.K g.mg g.base (L2.CX g.P g.w) k a fd ps (lowSp g.cn.K g.cn.T f) ∧ Cls g.cn.K C ∧ Meth g.cn.K C m a ∧ Binds g.cn.K fd ps []
  ok : ∃ C, g.cn.T.cls c = some C
/-- the receiver, as the machine sees it -/
theorem recv_ok {c m : String} {x : R} {v : V} {σ : L2.St} {r : Slots} {H : Hp} {W : Own} (R : Rel g.cn H W σ r) (rr : RR g.cn H W σ v x) (h : recvOk c m x r = true) : ∃ a C dx fs, v = .ref a ∧ g.cn.T.cls c = some C ∧ H a = some (.ins C dx fs) ∧ fs.lookup (Str.ofString m) = none := by
  cases x with
  | d x =>
    cases x with
    | obj c' fs' =>
      have h : (decide (c = c') && (fs'.lookup m).isNone) = true := h
      rw [Bool.and_eq_true] at h
      have hc := of_decide_eq_true h.1
      subst hc
      cases rr with
      | obj hC hx w rf => exact ⟨_, _, _, _, rfl, hC, hx, rpf_no (c := g.cn) rf (Option.isNone_iff_eq_none.mp h.2)⟩
    | _ => cases h
  | ref i =>
    have h' : (match at_ r i with
      | .ins _ c' fs => decide (c = c') && (lookF fs m).isNone
      | _ => false) = true := h
    have es' : σ[i]? = some (some v) := rr
    clear h rr
    cases q : at_ r i with
    | ins b c' fs' =>
      rw [q] at h'
      simp only [Bool.and_eq_true] at h'
      have hc := of_decide_eq_true h'.1
      subst hc
      obtain ⟨e0, ad, C, dx, vs, es, w, hC, hx, hf, nd, bo⟩ := slot_ins R q
      rw [es] at es'; cases es'
      exact ⟨_, _, _, _, rfl, hC, hx, fld_no hf (Option.isNone_iff_eq_none.mp h'.2)⟩
    | un => rw [q] at h'; cases h'
    | d z => rw [q] at h'; cases h'
    | own b l => rw [q] at h'; cases h'
    | err n => rw [q] at h'; cases h'
theorem sem_meth {c m : String} {f : FSem} {C : Addr} {E : XK} {to : TE} {ta : TA} (hC : g.cn.T.cls c = some C) (hE : g.wx = fun cls d _ H => E cls d H) (so : SemE g.cn g.wx to ea) (sa : SemA g.cn g.wx ta av) : SemE g.cn g.wx (tMeth C (Str.ofString m) (lowSp g.cn.K g.cn.T f) [] E to ta) (eMeth c m f ea av) := by
  intro σ r H W Q R h
  show to σ H (fun x H1 => ∃ a dx fs, x = .ref a ∧ H1 a = some (.ins C dx fs) ∧ fs.lookup (Str.ofString m) = none ∧ ta σ H1 fun vs H2 => lowSp g.cn.K g.cn.T f (x :: (vs ++ [])) H2 Q E)
  refine bindE (P := PoE g.cn σ Q) shE so R h fun x r1 v H1 W1 f1 R1 rr1 h1 => ?_
  by_cases q : recvOk c m x r1 = true
  · rw [if_pos q] at h1
    obtain ⟨a, C', dx, fs, rfl, hC', hx, hl⟩ := recv_ok R1 rr1 q
    rw [hC] at hC'; cases hC'
    refine ⟨a, dx, fs, rfl, hx, hl, ?_⟩
    refine bindA (P := PoE g.cn σ Q) shE sa R1 h1 fun xs r2 vs H2 W2 f2 R2 rr2 h2 => ?_
    rw [List.append_nil]
    have z := call_low (wx := g.wx) (Q := Q) R2 (.cons (rr1.mv f2) rr2) ((bindV h2).imp fun v r' hv u H3 W3 f3 R3 rv => retD f3 (fun a q => (R2.old a q).1) R3 rv hv)
    rw [hE] at z
    exact z
  · rw [if_neg q] at h1; exact False.elim h1
theorem se_meth {c m : String} {ms : Str} {f : FSem} (hB : g.B) (hR : g.R) (hF : g.Flat) (hm : ms = Str.ofString m) (C : MCal g c ms f) (ho : SE g a ea) (ha : SA g (e :: es) av)
    (hst : ∀ X, g.XP X → starEach (e :: es) X.env = (false, eval e X.env) :: starEach es X.env := by intros; rfl) (hpl : ∀ X, g.XP X → (backTo pos (starEach es X.env)).any (·.1) = false := by intros; rfl)
    (ht : ∀ X, g.XP X → ∃ pl, eval (.Call (.Attribute a ms apos) (e :: es) [] pos) X.env = (do
      let ov ← eval a X.env
      standAt apos.atName
      let (f, first) ← holding [ov] (getMethod ov ms pl)
      callWith pos f first (backTo pos (starEach (e :: es) X.env)) (backToKw pos (keywordEach [] X.env))) := by intros; exact ⟨_, rfl⟩) :
    SE g (.Call (.Attribute a ms apos) (e :: es) [] pos) (eMeth c m f ea av) := by
  subst hm
  obtain ⟨E, hE⟩ := hF
  obtain ⟨Ca, hC⟩ := C.ok
  obtain ⟨k, ad, fd, ps, hk, F, cl, me, bi⟩ := C.ex Ca hC
  obtain ⟨to, po, so⟩ := ho
  obtain ⟨ta, pa, sa⟩ := ha
  refine ⟨tMeth Ca (Str.ofString m) (lowSp g.cn.K g.cn.T f) [] E to ta, fun X hx => ?_, sem_meth hC hE so sa⟩
  have B := hB X hx
  have F2 : FnOk X.prog X.w X.K X.mg X.base (L2.CX X.prog X.w) k ad fd ps (lowSp g.cn.K g.cn.T f) := by rw [B.P, B.w, B.K, B.mg, B.base]; exact F
  have tk := hR.tk X hx
  rw [hE] at tk
  obtain ⟨pl, ht⟩ := ht X hx
  exact pe_meth (pl := pl) (po X hx) (by rw [B.K]; exact cl) (by rw [B.K]; exact me) F2 ((hR X hx).room.mono hk) (by rw [B.K]; exact bi) .nil (passes_call tk fun _ _ _ _ h => h) (pa X hx) (hst X hx) (hpl X hx) ht
theorem se_meth0 {c m : String} {ms : Str} {f : FSem} (hB : g.B) (hR : g.R) (hF : g.Flat) (hm : ms = Str.ofString m) (C : MCal g c ms f) (ho : SE g a ea)
    (ht : ∀ X, g.XP X → ∃ pl, eval (.Call (.Attribute a ms apos) [] [] pos) X.env = (do
      let ov ← eval a X.env
      standAt apos.atName
      let (f, first) ← holding [ov] (getMethod ov ms pl)
      callWith pos f first (backTo pos (starEach [] X.env)) (backToKw pos (keywordEach [] X.env))) := by intros; exact ⟨_, rfl⟩) :
    SE g (.Call (.Attribute a ms apos) [] [] pos) (eMeth c m f ea aNil) := by
  subst hm
  obtain ⟨E, hE⟩ := hF
  obtain ⟨Ca, hC⟩ := C.ok
  obtain ⟨k, ad, fd, ps, hk, F, cl, me, bi⟩ := C.ex Ca hC
  obtain ⟨to, po, so⟩ := ho
  obtain ⟨ta, pa, sa⟩ := sa_nil (g := g)
  refine ⟨tMeth Ca (Str.ofString m) (lowSp g.cn.K g.cn.T f) [] E to tNil, fun X hx => ?_, sem_meth hC hE so fun σ r H W Q R h => h [] H W Fr.refl R .nil⟩
  have B := hB X hx
  have F2 : FnOk X.prog X.w X.K X.mg X.base (L2.CX X.prog X.w) k ad fd ps (lowSp g.cn.K g.cn.T f) := by rw [B.P, B.w, B.K, B.mg, B.base]; exact F
  have tk := hR.tk X hx
  rw [hE] at tk
  obtain ⟨pl, ht⟩ := ht X hx
  exact pe_meth0 (pl := pl) (po X hx) (by rw [B.K]; exact cl) (by rw [B.K]; exact me) F2 ((hR X hx).room.mono hk) (by rw [B.K]; exact bi) .nil (passes_call tk fun _ _ _ _ h => h) ht
/-! ### new instances -/
structure NCal (g : Cxt) (c : String) (cs : Str) (init : FSem) : Prop where
  ex : ∃ (C : Addr) (k : Nat) (a : Addr) (fd : FuncData) (ps : List Str), g.cn.T.cls c = some C ∧ k + 1 ≤ g.k ∧ FnOk g.P g.w g.cn.K g.mg g.base (L2.CX g.P g.w) k a fd ps (lowSp g.cn.K g.cn.T init) ∧ Mk g.cn.K C a ∧ g.mg cs = some (.ref C) ∧ Binds g.cn.K fd ps []
/-- behind C(..): a new instance with its fields, held by nobody -/
def NewV (c : Cn) (n : String) (H H' : Hp) (W' : Own) (u : V) (fs : List (String × Sk.F)) : Prop := ∃ a C dx vs i, u = .ref a ∧ H a = none ∧ W' a = some (.s i) ∧ c.T.cls n = some C ∧ H' a = some (.ins C dx vs) ∧ Flds c H' W' i vs fs ∧ (fs.map (·.1)).Nodup
end
end SkS

namespace SkS
open PySem PySem.Spec PyProof.Rows L2 Sk
section
variable {c : Cn} {wx : WX} {H H' : Hp} {W W' : Own} {σ : L2.St} {r : Slots} {D : Ends}
theorem OutOk.shift {o : Out} (f : Fr H W H' W') (h : OutOk c wx D H W o) : OutOk c wx D H' W' o := by
  cases o with
  | nx r => exact fun σ2 H2 W2 f2 => h σ2 H2 W2 (f.trans f2)
  | bk r => exact fun σ2 H2 W2 f2 => h σ2 H2 W2 (f.trans f2)
  | ct r => exact fun σ2 H2 W2 f2 => h σ2 H2 W2 (f.trans f2)
  | rt v r => exact fun u σ2 H2 W2 f2 => h u σ2 H2 W2 (f.trans f2)
  | ex n r => exact fun C σ2 H2 W2 e f2 => h C σ2 H2 W2 e (f.trans f2)
  | bad => exact h
theorem outE {te : TE} {ev : EV} {f : R → Slots → Out} {Q : VK} (he : SemE c wx te ev) (R : Rel c H W σ r) (h : OutOk c wx D H W ((ev r).out f))
    (k : ∀ x r' v H' W', Fr H W H' W' → Rel c H' W' σ r' → RR c H' W' σ v x → OutOk c wx D H' W' (f x r') → Q v H') : te σ H Q := by
  refine he σ r H W Q R ?_
  cases e : ev r with
  | ok x r1 =>
    rw [e] at h
    exact fun v H1 W1 f1 R1 rr1 => k x r1 v H1 W1 f1 R1 rr1 (h.shift f1)
  | exc n r1 => rw [e] at h; exact fun C H1 W1 q f1 R1 => h C σ H1 W1 q f1 R1
  | bad => rw [e] at h; exact h
theorem outL {te : TE} {ev : EV} {f : R → Slots → Out} {Q : VK} (he : SemL c wx te ev) (R : Rel c H W σ r) (h : OutOk c wx D H W ((ev r).out f))
    (k : ∀ l r' a xs H' W', Fr H W H' W' → Rel c H' W' σ r' → W' a = some .tmp → H a = none → H' a = some (.lst xs) → Rps c.K c.T H' W' xs l → OutOk c wx D H W (f (.d (.lst l)) r') → Q (.ref a) H') : te σ H Q := by
  refine he σ r H W Q R ?_
  cases e : ev r with
  | ok x r1 =>
    rw [e] at h
    intro l el a xs H1 W1 f1 R1 t n hx rx
    subst el
    exact k l r1 a xs H1 W1 f1 R1 t n hx rx h
  | exc n r1 => rw [e] at h; exact fun C H1 W1 q f1 R1 => h C σ H1 W1 q f1 R1
  | bad => rw [e] at h; exact h
theorem outT {tt : TT} {tv : TV} {f : Bool → Slots → Out} {Q : Bool → Hp → Prop} (he : SemT c wx tt tv) (R : Rel c H W σ r) (h : OutOk c wx D H W ((tv r).out f))
    (k : ∀ x r' H' W', Fr H W H' W' → Rel c H' W' σ r' → OutOk c wx D H' W' (f x r') → Q x H') : tt σ H Q := by
  refine he σ r H W Q R ?_
  cases e : tv r with
  | ok x r1 =>
    rw [e] at h
    exact fun H1 W1 f1 R1 => k x r1 H1 W1 f1 R1 (h.shift f1)
  | exc n r1 => rw [e] at h; exact fun C H1 W1 q f1 R1 => h C σ H1 W1 q f1 R1
  | bad => rw [e] at h; exact h
theorem outA {ta : TA} {av : AV} {f : List R → Slots → Out} {Q : List V → Hp → Prop} (he : SemA c wx ta av) (R : Rel c H W σ r) (h : OutOk c wx D H W ((av r).out f))
    (k : ∀ x r' v H' W', Fr H W H' W' → Rel c H' W' σ r' → Paired (RR c H' W' σ) v x → OutOk c wx D H' W' (f x r') → Q v H') : ta σ H Q := by
  refine he σ r H W Q R ?_
  cases e : av r with
  | ok x r1 =>
    rw [e] at h
    exact fun v H1 W1 f1 R1 rr1 => k x r1 v H1 W1 f1 R1 rr1 (h.shift f1)
  | exc n r1 => rw [e] at h; exact fun C H1 W1 q f1 R1 => h C σ H1 W1 q f1 R1
  | bad => rw [e] at h; exact h
theorem Rel.lt' (R : Rel c H W σ r) {i : Nat} (h : i < r.length) : i < σ.length := by rw [R.len]; exact h
end
section
variable {g : Cxt} {a b e : Expr} {es : List Expr} {st : Stmt} {sts : List Stmt} {ea eb ev : EV} {sa sb : SV} {pos p p2 : Pos}
def Cxt.F (g : Cxt) : Prop := ∀ X, g.XP X → ∀ x, X.fn x = true
def Cxt.L (g : Cxt) : Prop := ∀ X, g.XP X → PassesOwn (model X.prog X.w) X.A X.env X.xe
/-! ### blocks -/
theorem ss_nil : SSs g [] sNext := ⟨_, fun _ _ => pss_nil, fun σ r H W D R h => h σ H W Fr.refl R⟩
theorem ss_cons (h1 : SS g st sa) (h2 : SSs g sts sb) : SSs g (st :: sts) (sSeq sa sb) := by
  obtain ⟨ta, pa, ma⟩ := h1
  obtain ⟨tb, pb, mb⟩ := h2
  refine ⟨_, fun X x => pss_cons (pa X x) (pb X x), fun σ r H W D R h => ?_⟩
  refine ma σ r H W _ R ?_
  unfold sSeq at h
  cases e : sa r with
  | nx r1 =>
    rw [e] at h
    exact fun σ1 H1 W1 f1 R1 => mb σ1 r1 H1 W1 D R1 (OutOk.shift f1 h)
  | rt v r1 => rw [e] at h; exact h
  | bk r1 => rw [e] at h; exact h
  | ct r1 => rw [e] at h; exact h
  | ex n r1 => rw [e] at h; exact h
  | bad => rw [e] at h; exact h
theorem ss_one (h1 : SS g st sa) : SSs g [st] sa := by
  obtain ⟨ta, pa, ma⟩ := h1
  exact ⟨_, fun X x => pss_one (pa X x), ma⟩
theorem s_break : SS g (.Break pos) sBreak := ⟨_, fun _ _ => ps_break, fun σ r H W D R h => h σ H W Fr.refl R⟩
theorem s_pass : SS g (.Pass pos) sNext := ⟨_, fun _ _ => ps_pass, fun σ r H W D R h => h σ H W Fr.refl R⟩
theorem s_expr (ha : SE g e ev) (hs : ∀ X, g.XP X → swapsWith e none pos.line X.env = pure false := by intros; rfl) : SS g (.Expr e pos) (sExpr ev) := by
  obtain ⟨ta, pa, ma⟩ := ha
  refine ⟨tDrop ta, fun X x => ps_expr (pa X x) (hs X x), fun σ r H W D R h => ?_⟩
  exact outE ma R h fun x r1 v H1 W1 f1 R1 rr1 h1 => h1 σ H1 W1 Fr.refl R1
theorem s_ret (ha : SE g e ev) : SS g (.Return (some e) pos) (sRet ev) := by
  obtain ⟨ta, pa, ma⟩ := ha
  refine ⟨tRet ta, fun X x => ps_ret (pa X x), fun σ r H W D R h => ?_⟩
  refine outE (Q := D.rt) ma R h fun x r1 v H1 W1 f1 R1 rr1 h1 => ?_
  cases x with
  | d x => exact h1 v σ H1 W1 Fr.refl R1 rr1
  | ref i =>
    have h1 : OutOk g.cn g.wx D H1 W1 (match at_ r1 i with
      | .own false l => .rt (.own l) (r1.set i .un)
      | _ => .bad) := h1
    have es' : σ[i]? = some (some v) := rr1
    cases q : at_ r1 i with
    | own bb l =>
      rw [q] at h1
      cases bb with
      | true => exact False.elim h1
      | false =>
        obtain ⟨ad, xs, es, w, hx, rx, bo⟩ := R1.slot i _ (at_some q fun z => by cases z)
        rw [es] at es'; cases es'
        have h0 : g.cn.H0 ad = none := by unfold Bor at bo; rw [if_neg Bool.false_ne_true] at bo; exact bo
        have mv : Mv H1 W1 H1 (setW W1 ad (some .tmp)) := ⟨fun b u q k => ⟨q, by rw [setW_ne fun e => by subst e; rw [w] at k; cases k]; exact k⟩, fun _ _ q => q, fun _ _ _ q => q⟩
        have R2 : Rel g.cn H1 (setW W1 ad (some .tmp)) σ (r1.set i .un) := by
          refine ⟨by rw [List.length_set, R1.len], fun j x ej => ?_, fun z q => ⟨(R1.old z q).1, ?_⟩, by rw [List.length_set]; exact R1.tk.tmp⟩
          · by_cases hj : j = i
            · subst hj
              obtain rfl := getElem?_set_self' ej
              trivial
            · rw [List.getElem?_set_ne (Ne.symm hj)] at ej
              refine (R1.slot j x ej).mv mv (fun z u wz q => ⟨q, ?_⟩) fun z zs n wz q => ⟨q, ?_⟩
              · rw [setW_ne fun y => by subst y; rw [w] at wz; cases wz; exact hj rfl]; exact wz
              · rw [setW_ne fun y => by subst y; rw [w] at wz; cases wz]; exact wz
          · rw [setW_ne fun y => by subst y; exact q h0]
            exact (R1.old z q).2
        exact h1 _ σ H1 _ (Fr.retag (by rw [w]; exact fun z => by cases z) (by rw [w]; exact fun z => by cases z) (by rw [w]; exact fun z => by cases z)) R2 ⟨ad, xs, rfl, h0, setW_same, hx, rx.mv mv⟩
    | un => rw [q] at h1; exact False.elim h1
    | d z => rw [q] at h1; exact False.elim h1
    | ins b n fs => rw [q] at h1; exact False.elim h1
    | err n => rw [q] at h1; exact False.elim h1
theorem s_retN : SS g (.Return none pos) sRetN := ⟨_, fun _ _ => ps_retN, fun σ r H W D R h => h .non σ H W Fr.refl R .non⟩
theorem s_if {q r' : List Stmt} (hc : STt g a ea) (ha : SSs g q sa) (hb : SSs g r' sb) : SS g (.If a q r' pos) (sIf ea sa sb) := by
  obtain ⟨tc, pc, mc⟩ := hc
  obtain ⟨ta, pa, ma⟩ := ha
  obtain ⟨tb, pb, mb⟩ := hb
  refine ⟨tIfS tc ta tb, fun X x => ps_if (pc X x) (pa X x) (pb X x), fun σ r H W D R h => ?_⟩
  refine outT (Q := fun b H1 => if b = true then ta D σ H1 else tb D σ H1) mc R h fun x r1 H1 W1 f1 R1 h1 => ?_
  cases x with
  | true => exact ma σ r1 H1 W1 D R1 h1
  | false => exact mb σ r1 H1 W1 D R1 h1
theorem store_nx {c : Cn} {wx : WX} {D : Ends} {H : Hp} {W : Own} {i : Nat} {x : Sk.A} {r : Slots} (h : OutOk c wx D H W (store i x r)) : i < r.length ∧ OutOk c wx D H W (.nx (r.set i x)) := by
  unfold store at h
  split at h
  · rename_i q; exact ⟨q.2, h⟩
  · exact False.elim h
theorem s_set {i : Nat} {x : Str} (hB : g.B) (hN : g.N[i]? = some x) (hF : g.F) (hl : Loc g.sc x) (ha : SE g e ev) (hs : ∀ X, g.XP X → swapsWith e (some (.Name x p)) pos.line X.env = pure false := by intros; rfl) : SS g (.Assign [.Name x p] e pos) (sSet i ev) := by
  obtain ⟨ta, pa, ma⟩ := ha
  refine ⟨tAsg ta (gName i), fun X hx => ?_, fun σ r H W D R h => ?_⟩
  · have B := hB X hx
    refine ps_set (by rw [B.N]; exact B.nd) (by rw [B.N]; exact hN) (by rw [B.sc]; exact hl) (pa X hx) (hs X hx) (.inl (hF X hx _))
  · refine outE (Q := fun v H1 => gName i v σ H1 D.nx) ma R h fun x r1 v H1 W1 f1 R1 rr1 h1 => ?_
    cases x with
    | ref j => exact False.elim h1
    | d x =>
      obtain ⟨hi, h2⟩ := store_nx h1
      exact h2 _ H1 W1 Fr.refl (R1.setD rr1)
theorem s_own {i : Nat} {x : Str} (hB : g.B) (hN : g.N[i]? = some x) (hF : g.F) (hl : Loc g.sc x) (ha : SL g e ev) (hs : ∀ X, g.XP X → swapsWith e (some (.Name x p)) pos.line X.env = pure false := by intros; rfl) : SS g (.Assign [.Name x p] e pos) (sOwn i ev) := by
  obtain ⟨ta, pa, ma, ml⟩ := ha
  refine ⟨tAsg ta (gName i), fun X hx => ?_, fun σ r H W D R h => ?_⟩
  · have B := hB X hx
    refine ps_set (by rw [B.N]; exact B.nd) (by rw [B.N]; exact hN) (by rw [B.sc]; exact hl) (pa X hx) (hs X hx) (.inl (hF X hx _))
  · refine outL (Q := fun v H1 => gName i v σ H1 D.nx) ma R h fun l r1 ad xs H1 W1 f1 R1 wt n hx rx h1 => ?_
    obtain ⟨hi, h2⟩ := store_nx h1
    have h0 : g.cn.H0 ad = none := by
      cases q : g.cn.H0 ad with
      | none => rfl
      | some u => exact absurd n (R.old ad (by rw [q]; exact fun z => by cases z)).1
    exact h2 _ H1 _ (f1.newTag n) (R1.take wt hx rx h0 hi)
theorem s_callOwn {i : Nat} {x y : Str} {f : FSem} {av : AV} {p3 : Pos} (hB : g.B) (hR : g.R) (C : Cal g y f) (hg : g.sc.names.lookup y = some .globalImplicit) (ha : SA g (e :: es) av) (hN : g.N[i]? = some x) (hF : g.F) (hl : Loc g.sc x)
    (hdb : (y == ("__debug__" : Str)) = false := by decide) (he : ∀ X, g.XP X → starEach (e :: es) X.env = (false, eval e X.env) :: starEach es X.env := by intros; rfl) (hpl : ∀ X, g.XP X → (backTo p3 (starEach es X.env)).any (·.1) = false := by intros; rfl)
    (hs : ∀ X, g.XP X → swapsWith (.Call (.Name y p2) (e :: es) [] p3) (some (.Name x p)) pos.line X.env = pure false := by intros; rfl) : SS g (.Assign [.Name x p] (.Call (.Name y p2) (e :: es) [] p3) pos) (sCallOwn i f av) := by
  obtain ⟨k, ad, fd, ps, hk, F, hm, kp, bi⟩ := C.ex
  obtain ⟨ta, pa, sa⟩ := ha
  refine ⟨tAsg (tCallS (lowSp g.cn.K g.cn.T f) (WE g.wx) ta) (gName i), fun X hx => ?_, fun σ r H W D R h => ?_⟩
  · have B := hB X hx
    refine ps_set (by rw [B.N]; exact B.nd) (by rw [B.N]; exact hN) (by rw [B.sc]; exact hl) (pe_callG hB hR hx hg hk F hm kp bi (pa X hx) hdb (he X hx) (hpl X hx)) (hs X hx) (.inl (hF X hx _))
  · show ta σ H (fun vs H1 => lowSp g.cn.K g.cn.T f vs H1 (fun v H2 => gName i v σ H2 D.nx) (WE g.wx σ))
    refine outA sa R h fun xs r1 vs H1 W1 f1 R1 rr1 h1 => ?_
    refine call_low (wx := g.wx) R1 rr1 ?_
    cases q : callV f xs r1 with
    | bad => rw [q] at h1; exact h1
    | exc n r2 => rw [q] at h1; exact fun C H2 W2 e f2 R2 => h1 C σ H2 W2 e f2 R2
    | ok v r2 =>
      rw [q] at h1
      intro u H2 W2 f2 R2 rv
      cases v with
      | d x => exact False.elim h1
      | ins n fs => exact False.elim h1
      | own l =>
        obtain ⟨hi, h2⟩ := store_nx h1
        obtain ⟨ad2, xs2, rfl, n2, wt, hx2, rx2⟩ := rv
        have h0 : g.cn.H0 ad2 = none := by
          cases q : g.cn.H0 ad2 with
          | none => rfl
          | some u => exact absurd n2 (R1.old ad2 (by rw [q]; exact fun z => by cases z)).1
        exact h2 _ H2 _ (f2.newTag n2) (R2.take wt hx2 rx2 h0 hi)
/-- a, b = e -/
theorem s_pair {i j : Nat} {x y : Str} {kt : Nat} {pt : Pos} (hB : g.B) (hR : g.R) (hN : g.N[i]? = some x) (hN2 : g.N[j]? = some y) (hF : g.F) (hl : Loc g.sc x) (hl2 : Loc g.sc y) (ha : SE g e ev)
    (hs : ∀ X, g.XP X → swapsWithSole [.Tuple [.Name x p, .Name y p2] kt pt] e pos.line X.env = pure false := by intros; rfl) (hw : ∀ X, g.XP X → swappedStores [.Tuple [.Name x p, .Name y p2] kt pt] e X.env = pure none := by intros; rfl)
    (h1 : ∀ X, g.XP X → (assignEach [.Tuple [.Name x p, .Name y p2] kt pt] X.env).map (·.2) = [assign (.Tuple [.Name x p, .Name y p2] kt pt) X.env] := by intros; rfl) : SS g (.Assign [.Tuple [.Name x p, .Name y p2] kt pt] e pos) (sPair i j ev) := by
  obtain ⟨ta, pa, ma⟩ := ha
  refine ⟨tAsg ta (gTup g.cn.K 2 (gCons (gName i) (gCons (gName j) gNil))), fun X hx => ?_, fun σ r H W D R h => ?_⟩
  · have B := hB X hx
    rw [← B.K]
    refine ps_asg (pa X hx) (pg_tup (hR X hx).calm (pgs_cons (pg_name (by rw [B.N]; exact B.nd) (by rw [B.N]; exact hN) (by rw [B.sc]; exact hl) (.inl (hF X hx _))) (pgs_cons (pg_name (by rw [B.N]; exact B.nd) (by rw [B.N]; exact hN2) (by rw [B.sc]; exact hl2) (.inl (hF X hx _))) pgs_nil))) (hs X hx) (hw X hx) (h1 X hx)
  · refine outE (Q := fun v H1 => gTup g.cn.K 2 (gCons (gName i) (gCons (gName j) gNil)) v σ H1 D.nx) ma R h fun x r1 v H1 W1 f1 R1 rr1 h1 => ?_
    cases x with
    | ref j => exact False.elim h1
    | d x =>
      cases x with
      | tup l =>
        match l, rr1, h1 with
        | [], _, h1 => exact False.elim h1
        | [_], _, h1 => exact False.elim h1
        | _ :: _ :: _ :: _, _, h1 => exact False.elim h1
        | [u, w], rr1, h1 =>
          cases rr1 with
          | tup hq hr =>
            cases hr with
            | cons ra hr =>
              cases hr with
              | cons rb hr =>
                cases hr
                rename_i ad va vb
                refine ⟨ad, _, rfl, hq, rfl, va, _, rfl, vb, _, rfl, rfl, ?_⟩
                have h1 : OutOk g.cn g.wx D H1 W1 (match store i (.d u) r1 with
                  | .nx r2 => store j (.d w) r2
                  | _ => .bad) := h1
                unfold store at h1
                split at h1
                · rename_i r2 e2
                  split at e2
                  · rename_i q
                    cases e2
                    obtain ⟨hj, h2⟩ := store_nx (show OutOk g.cn g.wx D H1 W1 (store j (.d w) (r1.set i (.d u))) from h1)
                    exact h2 _ H1 W1 Fr.refl ((R1.setD ra).setD rb)
                  · cases e2
                · exact False.elim h1
      | _ => exact False.elim h1
/-- a class of exceptions of the program's own -/
structure XCls (g : Cxt) (n : String) (x : Str) : Prop where
  ex : ∃ C, g.cn.T.exc n = some C ∧ PySem.W.excIn g.cn.K C He.veBase "ValueError.__new__" = true ∧ PySem.W.keepIn g.cn.K (.ref C) = true ∧ PySem.W.subIn g.cn.K (.ref C) (.type "BaseException") = some true ∧ PySem.W.typeIn g.cn.K (.ref C) = some (.type "type") ∧ g.mg x = some (.ref C)
theorem s_raise {n : String} {x m : Str} {j : Nat} {p3 : Pos} (hB : g.B) (hR : g.R) (C : XCls g n x) (hg : g.sc.names.lookup x = some .globalImplicit) (hdb : (x == ("__debug__" : Str)) = false := by decide) :
    SS g (.Raise (some (.Call (.Name x p) [.Constant (.str m) j p2] [] p3)) none pos) (sRaise n) := by
  obtain ⟨C, hC, h1, h2, h3, h4, h5⟩ := C.ex
  refine ⟨fun _ σ H => g.wx (.ref C) none σ H, fun X hx => ?_, fun σ r H W D R h => h C σ H W hC Fr.refl R⟩
  have B := hB X hx
  exact ps_raise (hR X hx).calm (hR.tk X hx) (pmk_own (B := "ValueError") (bmB := He.veBase) (newId := "ValueError.__new__") PySem.F.excBase_ValueError (by rw [B.K]; exact h1) (by rw [B.mg]; exact h5) (by rw [B.K]; exact h2) (raises_own (by rw [B.K]; exact h3) (by rw [B.K]; exact h4)) (hB.gl hg X hx) hdb)
end
end SkS

namespace SkS
open PySem PySem.Spec PyProof.Rows L2 Sk
/-! ### what is walked -/
def WalkOk (c : Cn) (H : Hp) (W : Own) (J : It) (l : List Sk.D) : Prop := ∀ H' W', Fr H W H' W' →
  (∀ i d, l[i]? = some d → J.go i H' ∧ ∀ x H'', J.yld i H' x H'' → H'' = H' ∧ Rp c.K c.T H' W' x d) ∧ ∀ i, l.length ≤ i → J.stop i H'
def SemI (c : Cn) (wx : WX) (wi : TI) (iv : IV) : Prop := ∀ (σ : L2.St) (r : Slots) (H : Hp) (W : Own) (R : It → Hp → Prop), Rel c H W σ r →
  ResOk c wx σ H W (fun l r' => ∀ J H' W', Fr H W H' W' → Rel c H' W' σ r' → WalkOk c H' W' J l → R J H') (iv r) → wi σ H R
def SI (g : Cxt) (tg e : Expr) (iv : IV) : Prop := ∃ wi, (∀ X, g.XP X → PI X tg e wi) ∧ SemI g.cn g.wx wi iv
theorem WalkOk.mv {c : Cn} {H H' : Hp} {W W' : Own} {J : It} {l : List Sk.D} (f : Fr H W H' W') (h : WalkOk c H W J l) : WalkOk c H' W' J l := fun H2 W2 f2 => h H2 W2 (f.trans f2)
theorem walk_list {c : Cn} {H : Hp} {W : Own} {a : Addr} {xs : List V} {l : List Sk.D} (h : H a = some (.lst xs)) (w : W a = none) (rx : Rps c.K c.T H W xs l) : WalkOk c H W (Itl c.K a) l := by
  intro H' W' f
  have h2 := (f.keep a _ h (.inl w)).1
  have r2 := rx.mv f.mv
  refine ⟨fun i d e => ?_, fun i hi => ⟨xs, SqL.of h2, by rw [r2.len]; exact hi⟩⟩
  obtain ⟨v, hv, rv⟩ := r2.get e
  refine ⟨⟨xs, v, SqL.of h2, hv⟩, fun x H'' y => ⟨y.1, ?_⟩⟩
  have := y.2 xs (SqL.of h2)
  rw [hv] at this; cases this
  exact rv
theorem walk_tup {c : Cn} {H : Hp} {W : Own} {a : Addr} {xs : List V} {l : List Sk.D} (h : SqT c.K H a xs) (rx : Rps c.K c.T H W xs l) : WalkOk c H W (Itt c.K a) l := by
  intro H' W' f
  have h2 : SqT c.K H' a xs := SqT.mono2 f.tup f.frz h
  have r2 := rx.mv f.mv
  refine ⟨fun i d e => ?_, fun i hi => ⟨xs, h2, by rw [r2.len]; exact hi⟩⟩
  obtain ⟨v, hv, rv⟩ := r2.get e
  refine ⟨⟨xs, v, h2, hv⟩, fun x H'' y => ⟨y.1, ?_⟩⟩
  have := y.2 xs h2
  rw [hv] at this; cases this
  exact rv
theorem walk_rng {c : Cn} {H : Hp} {W : Own} {lo : Int} {n : Nat} : WalkOk c H W (Itr lo n) (Sk.upTo lo n) := by
  intro H' W' f
  have len : (Sk.upTo lo n).length = n := by unfold Sk.upTo; rw [List.length_map, List.length_range]
  refine ⟨fun i d e => ?_, fun i hi => by rw [len] at hi; exact hi⟩
  have hi : i < n := by rw [← len]; exact (List.getElem?_eq_some_iff.mp e).1
  have : d = .int (lo + (i : Int)) := by
    unfold Sk.upTo at e
    rw [List.getElem?_map, List.getElem?_range hi] at e
    exact (Option.some.inj e).symm
  subst this
  exact ⟨hi, fun x H'' y => ⟨y.1, by rw [y.2]; exact .int _⟩⟩
section
variable {g : Cxt} {a b e tg : Expr} {es : List Expr} {st : Stmt} {sts : List Stmt} {ea eb ev : EV} {sa sb : SV} {pos p p2 : Pos} {iv : IV}
abbrev PoI (c : Cn) (σ : L2.St) (Q : It → Hp → Prop) (H : Hp) (W : Own) : List Sk.D → Slots → Prop := fun l r' => ∀ J H' W', Fr H W H' W' → Rel c H' W' σ r' → WalkOk c H' W' J l → Q J H'
theorem shI {c : Cn} {σ : L2.St} {Q : It → Hp → Prop} : Shift (PoI c σ Q) := fun _ _ _ _ _ _ f h J H2 W2 f2 => h J H2 W2 (f.trans f2)
/-- a list or a tuple -/
def iSeq (K : PySem.W.Frag) (te : TE) : TI := fun σ H R => te σ H fun x H1 => ∃ a, x = .ref a ∧ (((∃ xs, SqL K H1 a xs) ∧ R (Itl K a) H1) ∨ ((∃ xs, SqT K H1 a xs) ∧ R (Itt K a) H1))
theorem pi_seq {X : Cx} {l : Expr} {tl : TE} (hl : PE X l tl) : PI X tg l (iSeq X.K tl) := by
  refine ⟨fun pins s σ H R I h => ?_⟩
  refine thn (hl.run pins s σ H _ I h) fun v s1 ⟨x, H1, I1, r1, q1⟩ => ?_
  obtain ⟨a, e, q1⟩ := q1
  subst e
  cases r1
  rcases q1 with ⟨⟨xs, hq⟩, q⟩ | ⟨⟨xs, hq⟩, q⟩
  · obtain ⟨its, rv, p, hz⟩ := I1.list hq
    refine wpAny_pyIter_list p.isList ?_
    refine ⟨s1.heap.objs.size, [s1.heap.objs.size], _, _, H1, rfl, I1.kept (t' := s1.toks) fun b o e => Heap.get?_push_of_some _ e, turn_list a _, ⟨_, Heap.get?_push_size _ rfl, rfl, rfl⟩, fun b hb => ?_, q⟩
    have e : b = s1.heap.objs.size := by simpa using hb
    subst e
    exact I1.fpOk (Nat.le_refl _) (I1.hok.fresh (Nat.le_refl _))
  · obtain ⟨its, rv, p, hz⟩ := I1.tuple hq
    refine wpAny_pyIter_tuple (show s1.heap.IsTuple a its.toArray from p) ?_
    refine ⟨s1.heap.objs.size, [s1.heap.objs.size], _, _, H1, rfl, I1.kept (t' := s1.toks) fun b o e => Heap.get?_push_of_some _ e, turn_tuple a _, ⟨_, Heap.get?_push_size _ rfl, rfl, rfl⟩, fun b hb => ?_, q⟩
    have e : b = s1.heap.objs.size := by simpa using hb
    subst e
    exact I1.fpOk (Nat.le_refl _) (I1.hok.fresh (Nat.le_refl _))
theorem si_val (hB : g.B) (ha : SE g a ea) : SI g tg a (iVal ea) := by
  obtain ⟨ta, pa, ma⟩ := ha
  refine ⟨iSeq g.cn.K ta, fun X hx => ?_, fun σ r H W R Rr h => ?_⟩
  · rw [← hB.K X hx]; exact pi_seq (pa X hx)
  · show ta σ H (fun x H1 => ∃ a, x = .ref a ∧ (((∃ xs, SqL g.cn.K H1 a xs) ∧ R (Itl g.cn.K a) H1) ∨ ((∃ xs, SqT g.cn.K H1 a xs) ∧ R (Itt g.cn.K a) H1)))
    refine bindE (P := PoI g.cn σ R) shI ma Rr h fun x r1 v H1 W1 f1 R1 rr1 h1 => ?_
    cases x with
    | ref i => exact False.elim h1
    | d x =>
      cases x with
      | lst l => cases rr1 with
        | lst hx w rx => exact ⟨_, rfl, .inl ⟨⟨_, SqL.of hx⟩, h1 _ H1 W1 Fr.refl R1 (walk_list hx w rx)⟩⟩
      | tup l => cases rr1 with
        | tup hx rx => exact ⟨_, rfl, .inr ⟨⟨_, hx⟩, h1 _ H1 W1 Fr.refl R1 (walk_tup hx rx)⟩⟩
      | _ => exact False.elim h1
theorem si_rng {p2 : Pos} (hB : g.B) (hg : g.sc.names.lookup ("range" : Str) = some .globalImplicit) (hm : Fre g "range") (ha : SE g a ea) (hs : ∀ X, g.XP X → starEach [a] X.env = [(false, eval a X.env)] := by intros; rfl) : SI g tg (.Call (.Name "range" p) [a] [] p2) (iRng ea) := by
  obtain ⟨ta, pa, ma⟩ := ha
  refine ⟨iRng1 (tCons ta tNil), fun X hx => pi_range1 (hB.gl hg X hx) (by rw [(hB X hx).mg]; exact hm) (pa_cons (pa X hx) pa_nil (hs X hx)) (hs X hx), fun σ r H W R Rr h => ?_⟩
  show ta σ H (fun x H1 => ∃ j : Int, [x] = [.int j] ∧ -(2 ^ 62) ≤ j ∧ j < 2 ^ 62 ∧ R (Itr 0 j.toNat) H1)
  refine bindE (P := PoI g.cn σ R) shI ma Rr h fun x r1 v H1 W1 f1 R1 rr1 h1 => ?_
  cases x with
  | ref i => exact False.elim h1
  | d x =>
    cases x with
    | int j =>
      cases rr1
      have h1 : ResOk g.cn g.wx σ H1 W1 (PoI g.cn σ R H1 W1) (if okR j then .ok (Sk.upTo 0 j.toNat) r1 else .bad) := h1
      split at h1
      · rename_i q; exact ⟨j, rfl, q.1, q.2, h1 _ H1 W1 Fr.refl R1 walk_rng⟩
      · exact False.elim h1
    | _ => exact False.elim h1
theorem si_rng2 {p2 : Pos} (hB : g.B) (hg : g.sc.names.lookup ("range" : Str) = some .globalImplicit) (hm : Fre g "range") (ha : SE g a ea) (hb : SE g b eb) (hs : ∀ X, g.XP X → starEach [a, b] X.env = [(false, eval a X.env), (false, eval b X.env)] := by intros; rfl) (hs2 : ∀ X, g.XP X → starEach [b] X.env = [(false, eval b X.env)] := by intros; rfl) : SI g tg (.Call (.Name "range" p) [a, b] [] p2) (Sk.iRng2 ea eb) := by
  obtain ⟨ta, pa, ma⟩ := ha
  obtain ⟨tb, pb, mb⟩ := hb
  refine ⟨L2.iRng2 (tCons ta (tCons tb tNil)), fun X hx => pi_range2 (hB.gl hg X hx) (by rw [(hB X hx).mg]; exact hm) (pa_cons (pa X hx) (pa_cons (pb X hx) pa_nil (hs2 X hx)) (by rw [hs X hx, hs2 X hx])) (hs X hx) (hs2 X hx), fun σ r H W R Rr h => ?_⟩
  show ta σ H (fun x H1 => tb σ H1 fun y H2 => ∃ i j : Int, [x, y] = [.int i, .int j] ∧ (-(2 ^ 62) ≤ i ∧ i < 2 ^ 62 ∧ -(2 ^ 62) ≤ j ∧ j < 2 ^ 62) ∧ R (Itr i (j - i).toNat) H2)
  refine bindE (P := PoI g.cn σ R) shI ma Rr h fun x r1 v H1 W1 f1 R1 rr1 h1 => ?_
  refine bindE (P := PoI g.cn σ R) shI mb R1 h1 fun y r2 v2 H2 W2 f2 R2 rr2 h2 => ?_
  cases x with
  | ref i => exact False.elim h2
  | d x =>
    cases y with
    | ref i => cases x <;> exact False.elim h2
    | d y =>
      cases x with
      | int i =>
        cases y with
        | int j =>
          cases rr1
          cases rr2
          have h2 : ResOk g.cn g.wx σ H2 W2 (PoI g.cn σ R H2 W2) (if okR i ∧ okR j then .ok (Sk.upTo i (j - i).toNat) r2 else .bad) := h2
          split at h2
          · rename_i q; exact ⟨i, j, rfl, ⟨q.1.1, q.1.2, q.2.1, q.2.2⟩, h2 _ H2 W2 Fr.refl R2 walk_rng⟩
          · exact False.elim h2
        | _ => exact False.elim h2
      | _ => exact False.elim h2
/-! ### for -/
theorem s_for {i : Nat} {x : Str} (hB : g.B) (hR : g.R) (hL : g.L) (hF : g.F) (hN : g.N[i]? = some x) (hl : Loc g.sc x) (hi : SI g (.Name x p) e iv) (hb : SSs g sts sb)
    (hs : ∀ X, g.XP X → ∀ y, foldedSetIterable e X.env y = pure y := by intros; rfl) : SS g (.For (.Name x p) e sts [] pos) (sFor i iv sb) := by
  obtain ⟨wi, pi, mi⟩ := hi
  obtain ⟨tb, pb, mb⟩ := hb
  refine ⟨tFor wi (gName i) tb, fun X hx => ?_, fun σ r H W D R h => ?_⟩
  · have B := hB X hx
    exact ps_for (hL X hx) (hR X hx).calm (pi X hx) (pg_name (by rw [B.N]; exact B.nd) (by rw [B.N]; exact hN) (by rw [B.sc]; exact hl) (.inl (hF X hx _))) (pb X hx) (hs X hx)
  · refine mi σ r H W _ R ?_
    unfold sFor at h
    cases q : iv r with
    | bad => rw [q] at h; exact h
    | exc n r1 => rw [q] at h; exact fun C H1 W1 e1 f1 R1 => h C σ H1 W1 e1 f1 R1
    | ok l r1 =>
      rw [q] at h
      have h : OutOk g.cn g.wx D H W (forL i sb l r1) := h
      intro J H1 W1 f1 R1 wk
      refine ⟨fun k m σ H' => ∃ W' r', m = l.length - k ∧ k ≤ l.length ∧ Fr H1 W1 H' W' ∧ Rel g.cn H' W' σ r' ∧ OutOk g.cn g.wx D H' W' (forL i sb (l.drop k) r'), ⟨l.length, W1, r1, by simp, Nat.zero_le _, Fr.refl, R1, h.shift f1⟩, ?_⟩
      rintro k m σ2 H2 ⟨W2, r2, rfl, hk, f2, R2, h2⟩
      obtain ⟨go, stop⟩ := wk H2 W2 f2
      by_cases hlt : k < l.length
      · right
        have hd : l[k]? = some l[k] := List.getElem?_eq_getElem hlt
        obtain ⟨g1, g2⟩ := go k _ hd
        refine ⟨g1, fun σ3 H3 => ∃ W3 r3, Fr H1 W1 H3 W3 ∧ Rel g.cn H3 W3 σ3 r3 ∧ OutOk g.cn g.wx D H3 W3 (forL i sb (l.drop (k + 1)) r3), fun σ3 H3 ⟨W3, r3, f3, R3, h3⟩ => ⟨l.length - (k + 1), by omega, W3, r3, rfl, hlt, f3, R3, h3⟩, fun y H3 hy => ?_⟩
        obtain ⟨rfl, ry⟩ := g2 y H3 hy
        rw [List.drop_eq_getElem_cons hlt] at h2
        unfold forL at h2
        unfold store at h2
        split at h2
        · rename_i r0 e0
          split at e0
          · cases e0
            have R4 := R2.setD (i := i) ry
            refine mb _ _ H3 W2 _ R4 ?_
            cases qb : sb (r2.set i (.d l[k])) with
            | nx r5 => rw [qb] at h2; exact fun σ6 H6 W6 f6 R6 => ⟨W6, r5, f2.trans f6, R6, OutOk.shift f6 h2⟩
            | ct r5 => rw [qb] at h2; exact fun σ6 H6 W6 f6 R6 => ⟨W6, r5, f2.trans f6, R6, OutOk.shift f6 h2⟩
            | bk r5 => rw [qb] at h2; exact h2
            | rt v r5 => rw [qb] at h2; exact h2
            | ex n r5 => rw [qb] at h2; exact h2
            | bad => rw [qb] at h2; exact h2
          · cases e0
        · exact False.elim h2
      · left
        have hk' : l.length ≤ k := Nat.le_of_not_lt hlt
        rw [List.drop_eq_nil_of_le hk'] at h2
        exact ⟨stop k hk', h2 σ2 H2 W2 Fr.refl R2⟩
theorem s_while (hL : g.L) (hc : STt g a ea) (hb : SSs g sts sb) : SS g (.While a sts [] pos) (sWhile ea sb) := by
  obtain ⟨tc, pc, mc⟩ := hc
  obtain ⟨tb, pb, mb⟩ := hb
  refine ⟨tWhile tc tb, fun X hx => ps_while (hL X hx) (pc X hx) (pb X hx), fun σ r H W D R h => ?_⟩
  unfold sWhile at h
  split at h
  · rename_i ex
    refine ⟨fun m σ' H' => ∃ W' r', Fr H W H' W' ∧ Rel g.cn H' W' σ' r' ∧ OutOk g.cn g.wx D H' W' (whileN ea sb m r'), ⟨ex.choose, W, r, Fr.refl, R, h⟩, ?_⟩
    rintro m σ2 H2 ⟨W2, r2, f2, R2, h2⟩
    cases m with
    | zero => exact False.elim h2
    | succ n =>
      unfold whileN at h2
      refine outT (Q := fun b H1 => if b = true then ∃ N : L2.St → Hp → Prop, (∀ σ' H', N σ' H' → ∃ m', m' < n + 1 ∧ ∃ W' r', Fr H W H' W' ∧ Rel g.cn H' W' σ' r' ∧ OutOk g.cn g.wx D H' W' (whileN ea sb m' r')) ∧ tb { D with nx := N, ct := N, bk := D.nx } σ2 H1 else D.nx σ2 H1) mc R2 h2 fun b r3 H3 W3 f3 R3 h3 => ?_
      cases b with
      | false => exact h3 σ2 H3 W3 Fr.refl R3
      | true =>
        rw [if_pos rfl]
        refine ⟨fun σ' H' => ∃ W' r', Fr H W H' W' ∧ Rel g.cn H' W' σ' r' ∧ OutOk g.cn g.wx D H' W' (whileN ea sb n r'), fun σ' H' q => ⟨n, Nat.lt_succ_self n, q⟩, ?_⟩
        refine mb σ2 r3 H3 W3 _ R3 ?_
        have h3 : OutOk g.cn g.wx D H3 W3 (match sb r3 with
          | .nx r2 => whileN ea sb n r2
          | .ct r2 => whileN ea sb n r2
          | .bk r2 => .nx r2
          | o => o) := h3
        cases qb : sb r3 with
        | nx r5 => rw [qb] at h3; exact fun σ6 H6 W6 f6 R6 => ⟨W6, r5, (f2.trans f3).trans f6, R6, OutOk.shift f6 h3⟩
        | ct r5 => rw [qb] at h3; exact fun σ6 H6 W6 f6 R6 => ⟨W6, r5, (f2.trans f3).trans f6, R6, OutOk.shift f6 h3⟩
        | bk r5 => rw [qb] at h3; exact h3
        | rt v r5 => rw [qb] at h3; exact h3
        | ex n r5 => rw [qb] at h3; exact h3
        | bad => rw [qb] at h3; exact h3
  · exact False.elim h
end
end SkS

namespace SkS
open PySem PySem.Spec PyProof.Rows L2 Sk
def Cxt.blk (g : Cxt) (bs : Scope) : Cxt := { g with XP := fun Y => ∃ X, g.XP X ∧ ∃ (s : Shared) (H : Hp) (C : Addr) (cl : List (Str × Addr)) (fp : List Addr), Y = X.blk s H bs (compEnvC bs cl C X.env) fp, sc := relS bs g.sc, wx := fun _ _ _ _ => False }
section
variable {g : Cxt} {bs : Scope}
theorem Cxt.B.blk (h : g.B) : (g.blk bs).B := by
  rintro Y ⟨X, hx, s, H, C, cl, fp, rfl⟩
  have B := h X hx
  refine ⟨B.K, B.P, B.w, B.mg, B.base, B.N, ?_, B.nd⟩
  show relS bs X.env.scope = relS bs g.sc
  rw [B.sc]
theorem Cxt.R.blk (h : g.R) : (g.blk bs).R := by
  rintro Y ⟨X, hx, s, H, C, cl, fp, rfl⟩
  have B := h X hx
  exact ⟨B.calm, B.room, takes0⟩
theorem Cxt.Flat.blk : (g.blk bs).Flat := ⟨fun _ _ _ => False, rfl⟩
/-- the tests of a comprehension: none, or one -/
def SFs (g : Cxt) (ifs : List Expr) (tv : EV) : Prop := ∃ tt, (∀ X, g.XP X → PTs X ifs tt) ∧ SemT g.cn g.wx tt (tst tv)
theorem sf_nil : SFs g [] eTrue := ⟨tYes, fun _ _ => pts_nil, fun σ r H W Q R h => h H W Fr.refl R⟩
theorem sf_one {c : Expr} {tv : EV} (h : STt g c tv) : SFs g [c] tv := by
  obtain ⟨tt, pt, mt⟩ := h
  exact ⟨tt, fun X x => pts_one (pt X x), mt⟩
theorem Fr.wrNew {H H' : Hp} {W W' : Own} {a : Addr} {o : HO} (f : Fr H W H' W') (h : H a = none) : Fr H W (upd H' a o) W' := by
  have ne : ∀ b u, H b = some u → b ≠ a := fun b u q e => by subst e; rw [h] at q; cases q
  refine ⟨fun b u q k => ?_, fun b q => ?_, fun b xs q => ?_, fun b u xs q => ?_⟩
  · rw [upd_ne (ne b u q)]; exact f.keep b u q k
  · rw [upd_ne fun e => by subst e; exact q h]; exact f.there b q
  · rw [upd_ne (ne b _ q)]; exact f.tup b xs q
  · rw [upd_ne (ne b _ q)]; exact f.frz b u xs q
/-- a list that nobody else holds is changed -/
theorem mv_tmp {H : Hp} {W : Own} {a : Addr} {xs ys : List V} (w : W a = some .tmp) (h : H a = some (.lst xs)) : Mv H W (upd H a (.lst ys)) W := by
  refine ⟨fun b o q k => ⟨?_, k⟩, fun b zs q => ?_, fun b o zs q => ?_⟩
  · rw [upd_ne fun e => by subst e; rw [w] at k; cases k]; exact q
  · rw [upd_ne fun e => by subst e; rw [h] at q; cases q]; exact q
  · rw [upd_ne fun e => by subst e; rw [h] at q; cases q]; exact q
theorem Rel.wrTmp {c : Cn} {H : Hp} {W : Own} {σ : L2.St} {r : Slots} {a : Addr} {xs ys : List V} (R : Rel c H W σ r) (w : W a = some .tmp) (h : H a = some (.lst xs)) : Rel c (upd H a (.lst ys)) W σ r := by
  refine ⟨R.len, fun i x e => (R.slot i x e).mv (mv_tmp w h) (fun z o wz q => ⟨?_, wz⟩) (fun z zs n wz q => ⟨?_, wz⟩), fun z q => ⟨?_, (R.old z q).2⟩, R.tk⟩
  · rw [upd_ne fun e => by subst e; rw [w] at wz; cases wz]; exact q
  · rw [upd_ne fun e => by subst e; rw [w] at wz; cases wz]; exact q
  · by_cases e : z = a
    · subst e; rw [upd_same]; exact fun z => by cases z
    · rw [upd_ne e]; exact (R.old z q).1
theorem Rel.unwipe {c : Cn} {H : Hp} {W : Own} {σ : L2.St} {r : Slots} {i : Nat} {a : Sk.A} (R : Rel c H W (σ.set i none) r) (hp : AOk c H W i σ[i]? a) : Rel c H W σ (r.set i a) := by
  refine ⟨by have := R.len; rw [List.length_set] at this ⊢; exact this, fun j x ej => ?_, R.old, by rw [List.length_set]; exact R.tk⟩
  by_cases hj : j = i
  · subst hj
    obtain rfl := getElem?_set_self' ej
    exact hp
  · rw [List.getElem?_set_ne (Ne.symm hj)] at ej
    have := R.slot j x ej
    rw [List.getElem?_set_ne (Ne.symm hj)] at this
    exact this
theorem AOk.plain {c : Cn} {H H' : Hp} {W W' : Own} {i : Nat} {v : Option (Option V)} {a : Sk.A} (m : Mv H W H' W') (p : plainA a = true) (h : AOk c H W i v a) : AOk c H' W' i v a := by
  cases a with
  | un => trivial
  | d x => obtain ⟨u, e, r⟩ := h; exact ⟨u, e, r.mv m⟩
  | own b l => cases p
  | ins b n fs => cases p
  | err n => cases p
theorem sem_comp {i : Nat} {wi : TI} {iv : IV} {tt : TT} {te : TE} {tv ev : EV} (mi : SemI g.cn g.wx wi iv) (mt : SemT g.cn (fun _ _ _ _ => False) tt (tst tv)) (me : SemE g.cn (fun _ _ _ _ => False) te ev) : SemL g.cn g.wx (tLc wi (gName i) tt te [i]) (eComp i iv tv ev) := by
  intro σ r H W Q R h
  refine mi σ r H W _ R ?_
  unfold eComp at h
  cases q : iv r with
  | bad => rw [q] at h; exact h
  | exc n r1 => rw [q] at h; exact h
  | ok xs r1 =>
    rw [q] at h
    intro J H1 W1 f1 R1 wk D hD
    simp only [Res.bind_ok] at h
    split at h
    · rename_i hp
      cases qc : compL i tv ev xs [] (r1.set i .un) with
      | bad => rw [qc] at h; exact False.elim h
      | exc n r2 => rw [qc] at h; exact False.elim h
      | ok L rEnd =>
        rw [qc] at h
        have t0 := Tr.new (c := g.cn) (W := W1) (o := .lst []) (t := some .tmp) hD
        refine ⟨fun k m H' => ∃ W' r' acc vs, m = xs.length - k ∧ k ≤ xs.length ∧ Fr H1 W1 H' W' ∧ Rel g.cn H' W' (σ.set i none) r' ∧ W' D = some .tmp ∧ H' D = some (.lst vs) ∧ Rps g.cn.K g.cn.T H' W' vs acc ∧ compL i tv ev (xs.drop k) acc r' = .ok L rEnd,
          ⟨xs.length, setW W1 D (some .tmp), r1.set i .un, [], [], by simp, Nat.zero_le _, t0.1, t0.2 _ _ R1.setUn, setW_same, upd_same, .nil, qc⟩, ?_⟩
        rintro k m H2 ⟨W2, r2, acc, vs, rfl, hk, f2, R2, wD, hx, rx, hc⟩
        obtain ⟨go, stop⟩ := wk H2 W2 f2
        by_cases hlt : k < xs.length
        · right
          have hd : xs[k]? = some xs[k] := List.getElem?_eq_getElem hlt
          obtain ⟨g1, g2⟩ := go k _ hd
          refine ⟨g1, fun H' => ∃ W' r' acc vs, Fr H1 W1 H' W' ∧ Rel g.cn H' W' (σ.set i none) r' ∧ W' D = some .tmp ∧ H' D = some (.lst vs) ∧ Rps g.cn.K g.cn.T H' W' vs acc ∧ compL i tv ev (xs.drop (k + 1)) acc r' = .ok L rEnd,
            fun H' ⟨W', r', acc, vs, a1, a2, a3, a4, a5, a6⟩ => ⟨xs.length - (k + 1), by omega, W', r', acc, vs, rfl, hlt, a1, a2, a3, a4, a5, a6⟩, fun y H3 hy => ?_⟩
          obtain ⟨rfl, ry⟩ := g2 y H3 hy
          have R3 := R2.setD (i := i) ry
          have wip : wipe (σ.set i none |>.set i (some y)) [i] = wipe σ [i] := by
            show ((σ.set i none).set i (some y)).set i none = σ.set i none
            rw [List.set_set, List.set_set]
          show wipe ((wipe σ [i]).set i (some y)) [i] = wipe σ [i] ∧ _
          refine ⟨wip, ?_⟩
          show tt ((σ.set i none).set i (some y)) H3 _
          rw [List.drop_eq_getElem_cons hlt] at hc
          unfold compL at hc
          have back : ∀ {H' : Hp} {W' : Own} {r' : Slots}, Rel g.cn H' W' ((σ.set i none).set i (some y)) r' → Rel g.cn H' W' (σ.set i none) (r'.set i .un) := fun R' => by
            have := R'.setUn (i := i) (v := none)
            rw [List.set_set, List.set_set] at this
            exact this
          refine mt _ _ H3 W2 _ R3 ?_
          cases qt : tst tv (r2.set i (.d xs[k])) with
          | bad => rw [qt] at hc; cases hc
          | exc n r5 => rw [qt] at hc; cases hc
          | ok b r5 =>
            rw [qt] at hc
            intro H5 W5 f5 R5
            have wD5 := (f5.keep D _ hx (.inr (.inl wD)))
            cases b with
            | false => exact ⟨W5, r5.set i .un, acc, vs, f2.trans f5, back R5, wD5.2.trans wD, wD5.1, rx.mv f5.mv, hc⟩
            | true =>
              rw [if_pos rfl]
              refine me _ r5 H5 W5 _ R5 ?_
              simp only at hc
              cases qe : ev r5 with
              | bad => rw [qe] at hc; cases hc
              | exc n r6 => rw [qe] at hc; cases hc
              | ok x r6 =>
                rw [qe] at hc
                cases x with
                | ref j => cases hc
                | d v =>
                  simp only at hc
                  split at hc
                  · rename_i hz
                    intro u H6 W6 f6 R6 ru
                    have wD6 := f6.keep D _ wD5.1 (.inr (.inl (wD5.2.trans wD)))
                    have w6 : W6 D = some .tmp := wD6.2.trans (wD5.2.trans wD)
                    have rx6 : Rps g.cn.K g.cn.T H6 W6 vs acc := (rx.mv f5.mv).mv f6.mv
                    refine ⟨vs, wD6.1, by rw [rx.len, ← line_eq]; exact hz, W6, r6.set i .un, acc ++ [v], vs ++ [u], ((f2.trans f5).trans f6).wrNew hD, (back R6).wrTmp w6 wD6.1, w6, upd_same, ?_, hc⟩
                    exact (rx6.app (.cons ru .nil)).mv (mv_tmp w6 wD6.1)
                  · cases hc
        · left
          have hk' : xs.length ≤ k := Nat.le_of_not_lt hlt
          rw [List.drop_eq_nil_of_le hk'] at hc
          cases hc
          refine ⟨stop k hk', ?_⟩
          have hs : r1[i]? = some (at_ r1 i) := by
            unfold at_
            rw [List.getElem?_eq_getElem hp.2]
            rfl
          have hD0 : H D = none := f1.noneB hD
          exact h _ rfl D vs H2 W2 (f1.trans f2) (R2.unwipe ((R1.slot i _ hs).plain f2.mv hp.1)) wD hD0 hx rx
    · exact False.elim h
theorem eComp_lst {i : Nat} {iv : IV} {tv ev : EV} : ∀ r x r', eComp i iv tv ev r = .ok x r' → ∃ l, x = .d (.lst l) := by
  intro r x r' h
  unfold eComp at h
  cases q : iv r with
  | bad => rw [q] at h; cases h
  | exc n r1 => rw [q] at h; cases h
  | ok xs r1 =>
    rw [q] at h
    simp only [Res.bind_ok] at h
    split at h
    · split at h
      · cases h; exact ⟨_, rfl⟩
      · cases h
    · cases h
theorem sl_comp {i : Nat} {x : Str} {iter elt : Expr} {ifs : List Expr} {iv : IV} {tv ev : EV} {p pos : Pos} (hB : g.B) (hR : g.R) (hN : g.N[i]? = some x) (ok : blkC g.N g.sc bs [(x, i)] = true) (hl : (relS bs g.sc).names.lookup x = some .local)
    (hi : SI g (.Name x p) iter iv) (ht : SFs (g.blk bs) ifs tv) (he : SE (g.blk bs) elt ev) (hs : ∀ X, g.XP X → ∀ y, foldedSetIterable iter X.env y = pure y := by intros; rfl) :
    SL g (.ListComp elt [⟨.Name x p, iter, ifs, 0⟩] bs pos) (eComp i iv tv ev) := by
  obtain ⟨wi, pi, mi⟩ := hi
  obtain ⟨tt, pt, mt⟩ := ht
  obtain ⟨te, pe, me⟩ := he
  refine ⟨tLc wi (gName i) tt te [i], fun X hx => ?_, sem_comp mi mt me, eComp_lst⟩
  have B := hB X hx
  have okB : BlkOk X.N X.env.scope bs [(x, i)] := by rw [B.N, B.sc]; exact blkOk_by ok
  refine pe_lc (hR X hx).calm (by rw [B.N]; exact B.nd) (pi X hx) okB (fun s H C cl fp => ?_) (fun s H C cl fp => pt _ ⟨X, hx, s, H, C, cl, fp, rfl⟩) (fun s H C cl fp => pe _ ⟨X, hx, s, H, C, cl, fp, rfl⟩) (hs X hx)
  have l2 : (relS bs X.env.scope).names.lookup x = some .local := by rw [B.sc]; exact hl
  exact pg_name (X := X.blk s H bs (compEnvC bs cl C X.env) fp) (by show X.N.Nodup; rw [B.N]; exact B.nd) (by show X.N[i]? = _; rw [B.N]; exact hN) (.inl l2) (.inr l2)
/-- name = [..] on one line -/
theorem s_ownComp {i j : Nat} {x y : Str} {iter elt : Expr} {ifs : List Expr} {iv : IV} {tv ev : EV} {p p2 pos spos : Pos} (hB : g.B) (hR : g.R) (hN : g.N[i]? = some x) (hN2 : g.N[j]? = some y) (hyl : g.sc.names.lookup y = some .local) (ok : blkC g.N g.sc bs [(x, i)] = true) (hl : (relS bs g.sc).names.lookup x = some .local)
    (hsw : ∀ X, g.XP X → swapsWith (.ListComp elt [⟨.Name x p, iter, ifs, 0⟩] bs pos) (some (.Name y p2)) spos.line X.env = pure true)
    (hi : SI g (.Name x p) iter iv) (ht : SFs (g.blk bs) ifs tv) (he : SE (g.blk bs) elt ev) (hs : ∀ X, g.XP X → ∀ y, foldedSetIterable iter X.env y = pure y := by intros; rfl) :
    SS g (.Assign [.Name y p2] (.ListComp elt [⟨.Name x p, iter, ifs, 0⟩] bs pos) spos) (sOwn j (eComp i iv tv ev)) := by
  obtain ⟨wi, pi, mi⟩ := hi
  obtain ⟨tt, pt, mt⟩ := ht
  obtain ⟨te, pe, me⟩ := he
  refine ⟨tAsg (tLc wi (gName i) tt te [i]) (gName j), fun X hx => ?_, fun σ r H W D R h => ?_⟩
  · have B := hB X hx
    have okB : BlkOk X.N X.env.scope bs [(x, i)] := by rw [B.N, B.sc]; exact blkOk_by ok
    refine ps_setLc (hR X hx).calm (by rw [B.N]; exact B.nd) (by rw [B.N]; exact hN2) (by rw [B.sc]; exact hyl) (hsw X hx) (pi X hx) okB (fun s H C cl fp => ?_) (fun s H C cl fp => pt _ ⟨X, hx, s, H, C, cl, fp, rfl⟩) (fun s H C cl fp => pe _ ⟨X, hx, s, H, C, cl, fp, rfl⟩) (hs X hx)
    have l2 : (relS bs X.env.scope).names.lookup x = some .local := by rw [B.sc]; exact hl
    exact pg_name (X := X.blk s H bs (compEnvC bs cl C X.env) fp) (by show X.N.Nodup; rw [B.N]; exact B.nd) (by show X.N[i]? = _; rw [B.N]; exact hN) (.inl l2) (.inr l2)
  · refine outL (Q := fun v H1 => gName j v σ H1 D.nx) (sem_comp mi mt me) R h fun l r1 ad xs H1 W1 f1 R1 wt n hx rx h1 => ?_
    obtain ⟨hi, h2⟩ := store_nx h1
    have h0 : g.cn.H0 ad = none := by
      cases q : g.cn.H0 ad with
      | none => rfl
      | some u => exact absurd n (R.old ad (by rw [q]; exact fun z => by cases z)).1
    exact h2 _ H1 _ (f1.newTag n) (R1.take wt hx rx h0 hi)
end
end SkS

namespace SkS
open PySem PySem.Spec PyProof.Rows L2 Sk
/-- g with the names of a def -/
abbrev Cxt.at (g : Cxt) (N : List Str) (sc : Scope) : Cxt := { g with N := N, sc := sc }
/-- what a def's body may lean on -/
structure Cxt.Ok (g : Cxt) : Prop where
  B : g.B
  R : g.R
  F : g.F
  L : g.L
  flat : g.Flat
  st : ∀ X, g.XP X → X.stack = X.env :: X.outer ∧ X.env.frame = some X.env.locals
  er : g.cn.er = none
section
variable {K : PySem.W.Frag} {T : Tab} {P : Program} {w : World} {mg : Str → Option Value} {base : Heap} {k : Nat}
theorem start_slot {vs : List V} {as : List Sk.A} {N : List Str} {W : Own} {H : Hp} (l : vs.length = as.length) (hN : as.length ≤ N.length) (tk : TokIn as.length W) (h : ∀ (k : Nat) a, as[k]? = some a → lentA a = true ∧ AOk (cnOf K T H W vs) H W k (vs.map some)[k]? a) :
    Rel (cnOf K T H W vs) H W (L2.start N vs) (as ++ List.replicate (N.length - as.length) .un) := by
  refine ⟨?_, fun i a e => ?_, fun a q => ⟨q, rfl⟩, fun a i => ?_⟩
  · unfold L2.start
    rw [List.length_append, List.length_append, List.length_map, List.length_replicate, List.length_replicate, l]
  · by_cases hi : i < as.length
    · rw [List.getElem?_append_left hi] at e
      have := (h i a e).2
      unfold L2.start
      rw [List.getElem?_append_left (by rw [List.length_map, l]; exact hi)]
      exact this
    · rw [List.getElem?_append_right (Nat.le_of_not_lt hi), List.getElem?_replicate] at e
      split at e
      · cases e; trivial
      · cases e
  · have := tk a i
    rw [List.length_append]
    exact ⟨fun z => Nat.lt_of_lt_of_le (this.1 z) (Nat.le_add_right _ _), fun f z => Nat.lt_of_lt_of_le (this.2 f z) (Nat.le_add_right _ _)⟩
theorem outs_ok {vs : List V} {W W' : Own} {H H' : Hp} {σ : L2.St} {r : Slots} {np : Nat} (R : Rel (cnOf K T H W vs) H' W' σ r) : OutsOk (cnOf K T H W vs) H' W' ((r.take np).map Sk.outA) := by
  intro j a e nd
  rw [List.getElem?_map] at e
  cases q : (r.take np)[j]? with
  | none => rw [q] at e; cases e
  | some b =>
    rw [q] at e
    have e : Sk.outA b = a := Option.some.inj e
    subst e
    have q' : r[j]? = some b := by
      rw [List.getElem?_take] at q
      split at q
      · exact q
      · cases q
    have ok := R.slot j b q'
    cases b with
    | un => trivial
    | d x => exact absurd rfl (nd x)
    | err n => trivial
    | own b l =>
      cases b with
      | false => trivial
      | true =>
        obtain ⟨ad, xs, es, w', hx, rx, bo⟩ := ok
        unfold Bor at bo
        rw [if_pos rfl] at bo
        refine ⟨ad, xs, ?_, w', hx, rx, by unfold Bor; rw [if_pos rfl]; exact bo⟩
        show (vs.map some)[j]? = _
        rw [List.getElem?_map, show vs[j]? = _ from bo]
        rfl
    | ins b n fs =>
      cases b with
      | false => trivial
      | true =>
        obtain ⟨ad, C, dx, ws, es, w', hC, hx, rf, nf, bo⟩ := ok
        unfold Bor at bo
        rw [if_pos rfl] at bo
        refine ⟨ad, C, dx, ws, ?_, w', hC, hx, rf, nf, by unfold Bor; rw [if_pos rfl]; exact bo⟩
        show (vs.map some)[j]? = _
        rw [List.getElem?_map, show vs[j]? = _ from bo]
        rfl
theorem fn_ok {name qual : Str} {params : Arguments} {body : List Stmt} {sc : Scope} {f : Addr} {fd : FuncData} {N ps : List Str} {sv : SV} (F : FunD K name qual params body sc [] [] f fd) (S : FnScope N ps sc)
    (hb : ∀ (cn : Cn) (wx : WX) (XP : Cx → Prop), cn.K = K → cn.T = T → (Cxt.mk cn wx XP P w mg base N sc k).Ok → SSs (Cxt.mk cn wx XP P w mg base N sc k) body sv) :
    FnOk P w K mg base (L2.CX P w) (k + 1) f fd ps (lowSp K T (runF ps.length N.length sv)) := by
  have hpl : ps.length ≤ N.length := by have := congrArg List.length S.pre; rw [List.length_take] at this; omega
  have len : ∀ vs H Q E, lowSp K T (runF ps.length N.length sv) vs H Q E → vs.length = ps.length := by
    rintro vs H Q E ⟨W, as, tk, l, h1, h2⟩
    unfold runF at h2
    split at h2
    · rename_i q; rw [l, q.1]
    · exact False.elim h2
  refine FunD.ok F S len fun cdv A outer s H vs Q E hr hsp => ?_
  obtain ⟨W, as, tk, l, h1, h2⟩ := hsp
  obtain ⟨ts, ps', ms⟩ := hb (cnOf K T H W vs) (fun cls d _ H' => E cls d H') (fun X => X = cxOf (L2.CX P w) P w K mg base N qual sc f cdv A outer s H E) rfl rfl
    ⟨fun X hx => by subst hx; exact ⟨rfl, rfl, rfl, rfl, rfl, rfl, rfl, S.nd⟩, fun X hx => by subst hx; exact ⟨rfl, hr, takes_of rfl rfl rfl rfl⟩, fun X hx x => by subst hx; rfl, fun X hx => by subst hx; exact passes_of rfl, ⟨E, rfl⟩, fun X hx => by subst hx; exact ⟨rfl, rfl⟩, rfl⟩
  refine ⟨ts, ps' _ rfl, ?_⟩
  unfold runF at h2
  split at h2
  · rename_i q
    have hl := q.1
    rw [show N.length - ps.length = N.length - as.length by rw [hl]] at h2
    refine ms _ _ H W _ (start_slot l (by rw [hl]; exact hpl) tk h1) ?_
    cases e : sv (as ++ List.replicate (N.length - as.length) .un) with
    | bad => rw [e] at h2; exact h2
    | bk r => rw [e] at h2; exact False.elim h2
    | ct r => rw [e] at h2; exact False.elim h2
    | nx r =>
      rw [e] at h2
      exact fun σ' H' W' f' R' => h2 .non H' W' ⟨f', fun a z => (R'.old a z).2⟩ .non (outs_ok R')
    | rt v r =>
      rw [e] at h2
      exact fun u σ' H' W' f' R' rv => h2 u H' W' ⟨f', fun a z => (R'.old a z).2⟩ rv (outs_ok R')
    | ex n r =>
      rw [e] at h2
      exact fun C σ' H' W' hC f' R' => h2 C H' W' hC ⟨f', fun a z => (R'.old a z).2⟩
  · exact False.elim h2
theorem fn_bad {f : Addr} {fd : FuncData} {ps : List Str} : FnOk P w K mg base (L2.CX P w) k f fd ps (lowSp K T fun _ => .bad) :=
  ⟨fun vs H Q E ⟨_, _, _, _, _, h⟩ => False.elim h, fun A outer s H args us vs Q E _ _ _ _ ⟨_, _, _, _, _, h⟩ => False.elim h⟩
end
end SkS

namespace SkS
open PySem PySem.Spec PyProof.Rows L2 Sk
def Cxt.tr (g : Cxt) (W : WX) : Cxt := { g with XP := fun Y => ∃ (X : Cx) (pn : List (Addr × Obj)) (xe : Value → Shared → Prop), g.XP X ∧ Y = X.tr pn xe ∧ Takes (X.tr pn xe) W ∧ PassesOwn (model X.prog X.w) X.A X.env xe, wx := W }
def Cxt.su (g : Cxt) (a : Addr) (n : String) (C : Addr) : Cxt := { g with cn := { g.cn with er := some (n, a) }, XP := fun Y => ∃ (X : Cx) (oe : Obj) (pn : List (Addr × Obj)), g.XP X ∧ Y = X.suite a ((a, oe) :: pn) ∧ Zc (.ref C) none oe ∧ ∃ vs, oe.data = .fields vs, wx := fun _ _ _ _ => False }
def Cxt.su0 (g : Cxt) : Cxt := { g with XP := fun Y => ∃ (X : Cx) (a : Addr) (oe : Obj) (pn : List (Addr × Obj)), g.XP X ∧ Y = X.suite a ((a, oe) :: pn), wx := fun _ _ _ _ => False }
section
variable {g : Cxt} {W : WX} {a C : Addr} {n : String}
theorem Cxt.B.tr (h : g.B) : (g.tr W).B := by
  rintro Y ⟨X, pn, xe, hx, rfl, _⟩
  have B := h X hx
  exact ⟨B.K, B.P, B.w, B.mg, B.base, B.N, B.sc, B.nd⟩
theorem Cxt.R.tr (h : g.R) : (g.tr W).R := by
  rintro Y ⟨X, pn, xe, hx, rfl, tk, _⟩
  have B := h X hx
  exact ⟨B.calm, B.room, tk⟩
theorem Cxt.F.tr (h : g.F) : (g.tr W).F := by
  rintro Y ⟨X, pn, xe, hx, rfl, _⟩ x
  exact h X hx x
theorem Cxt.L.tr (h : g.L) : (g.tr W).L := by
  rintro Y ⟨X, pn, xe, hx, rfl, _, p⟩
  exact p
theorem Cxt.B.su (h : g.B) : (g.su a n C).B := by
  rintro Y ⟨X, oe, pn, hx, rfl, _⟩
  have B := h X hx
  exact ⟨B.K, B.P, B.w, B.mg, B.base, B.N, B.sc, B.nd⟩
theorem Cxt.F.su (h : g.F) : (g.su a n C).F := by
  rintro Y ⟨X, oe, pn, hx, rfl, _⟩ x
  exact h X hx x
end
theorem Cxt.B.su0 {g : Cxt} (h : g.B) : g.su0.B := by
  rintro Y ⟨X, a, oe, pn, hx, rfl⟩
  have B := h X hx
  exact ⟨B.K, B.P, B.w, B.mg, B.base, B.N, B.sc, B.nd⟩
theorem Cxt.F.su0 {g : Cxt} (h : g.F) : g.su0.F := by
  rintro Y ⟨X, a, oe, pn, hx, rfl⟩ x
  exact h X hx x
def Cn.on (c : Cn) (n : String) (a : Addr) : Cn := { c with er := some (n, a) }
theorem Flds.on {c c' : Cn} {H : Hp} {W : Own} {i : Nat} (hK : c'.K = c.K) (hT : c'.T = c.T) : ∀ {vs : List (Str × V)} {fs : List (String × Sk.F)}, Flds c H W i vs fs → Flds c' H W i vs fs
  | _, _, .nil => .nil
  | _, _, .d r t => .d (by rw [hK, hT]; exact r) (Flds.on hK hT t)
  | _, _, .own w h r t => .own w h (by rw [hK, hT]; exact r) (Flds.on hK hT t)
theorem AOk.on {c c' : Cn} {H : Hp} {W : Own} {i : Nat} {v : Option (Option V)} {a : Sk.A} (hK : c'.K = c.K) (hT : c'.T = c.T) (hH : c'.H0 = c.H0) (hv : c'.vs = c.vs) (ne : noErr a = true) (h : AOk c H W i v a) : AOk c' H W i v a := by
  cases a with
  | un => trivial
  | d x => obtain ⟨u, e, r⟩ := h; exact ⟨u, e, by rw [hK, hT]; exact r⟩
  | own b l => obtain ⟨x, xs, e, w, hx, r, q⟩ := h; exact ⟨x, xs, e, w, hx, by rw [hK, hT]; exact r, by unfold Bor at q ⊢; rw [hH, hv]; exact q⟩
  | ins b n fs => obtain ⟨x, C, dx, vs, e, w, hc, hx, r, nd, q⟩ := h; exact ⟨x, C, dx, vs, e, w, by rw [hT]; exact hc, hx, r.on hK hT, nd, by unfold Bor at q ⊢; rw [hH, hv]; exact q⟩
  | err n => cases ne
theorem all_get {r : Slots} {i : Nat} {a : Sk.A} (h : r.all noErr = true) (e : r[i]? = some a) : noErr a = true := List.all_eq_true.mp h a (List.mem_of_getElem? e)
theorem Rel.noErr {c : Cn} {H : Hp} {W : Own} {σ : L2.St} {r : Slots} (R : Rel c H W σ r) (h : c.er = none) {i : Nat} {a : Sk.A} (e : r[i]? = some a) : noErr a = true := by
  cases a with
  | err n => obtain ⟨x, _, q⟩ := R.slot i _ e; rw [h] at q; cases q
  | _ => rfl
/-- the caught error stands in slot i -/
theorem Rel.toErr {c : Cn} {H : Hp} {W : Own} {σ : L2.St} {r : Slots} {i : Nat} {n : String} {a : Addr} (R : Rel c H W σ r) (h : c.er = none) : Rel (c.on n a) H W (σ.set i (some (.ref a))) (r.set i (.err n)) := by
  refine ⟨by rw [List.length_set, List.length_set, R.len], fun j x ej => ?_, R.old, by rw [List.length_set]; exact R.tk⟩
  by_cases hj : j = i
  · subst hj
    have hlt : j < σ.length := by
      have := (List.getElem?_eq_some_iff.mp ej).1
      rw [List.length_set] at this
      rw [R.len]; exact this
    obtain rfl := getElem?_set_self' ej
    exact ⟨a, by rw [List.getElem?_set_self hlt], rfl⟩
  · rw [List.getElem?_set_ne (Ne.symm hj)] at ej ⊢
    exact AOk.on (c := c) (c' := c.on n a) rfl rfl rfl rfl (R.noErr h ej) (R.slot j x ej)
theorem Rel.offErr {c : Cn} {H : Hp} {W : Own} {σ : L2.St} {r : Slots} {i : Nat} {n : String} {a : Addr} (R : Rel (c.on n a) H W σ r) (h : (r.set i .un).all Sk.noErr = true) : Rel c H W (σ.set i none) (r.set i .un) := by
  have R2 := R.setUn (i := i) (v := none)
  exact ⟨R2.len, fun j x ej => AOk.on (c := c.on n a) (c' := c) rfl rfl rfl rfl (all_get h ej) (R2.slot j x ej), R2.old, R2.tk⟩
theorem Rel.offErr0 {c : Cn} {H : Hp} {W : Own} {σ : L2.St} {r : Slots} {n : String} {a : Addr} (R : Rel (c.on n a) H W σ r) (h : r.all Sk.noErr = true) : Rel c H W σ r :=
  ⟨R.len, fun j x ej => AOk.on (c := c.on n a) (c' := c) rfl rfl rfl rfl (all_get h ej) (R.slot j x ej), R.old, R.tk⟩
/-- the class that a clause names: what of the known classes it catches -/
structure Catch (g : Cxt) (x : Str) (tb : List (String × Bool)) : Prop where
  ex : ∃ c : Value, (g.mg x = some c ∨ (g.mg x = none ∧ bootBuiltins x = some c ∧ x ≠ "__name__")) ∧ ∀ n b C, tb.lookup n = some b → g.cn.T.exc n = some C → PySem.W.exmOne g.cn.K (.ref C) c = some b
  inj : ∀ n m b b' C, tb.lookup n = some b → tb.lookup m = some b' → g.cn.T.exc n = some C → g.cn.T.exc m = some C → n = m
section
variable {g : Cxt} {body suite : List Stmt} {b₀ : Stmt} {sb ss : SV} {x n : Str} {i : Nat} {tb : List (String × Bool)} {np pos pos' : Pos}
open Classical in
theorem s_tryAs (hB : g.B) (he : g.cn.er = none) (hst : ∀ X, g.XP X → X.stack = X.env :: X.outer ∧ X.env.frame = some X.env.locals) (hR : g.R) (hN : g.N[i]? = some n) (hl : g.sc.names.lookup n = some .local) (hg : g.sc.names.lookup x = some .globalImplicit) (C : Catch g x tb)
    (hb : ∀ W, SSs (g.tr W) body sb) (hs : ∀ a nm Ca, g.cn.T.exc nm = some Ca → tb.lookup nm = some true → SSs (g.su a nm Ca) (b₀ :: suite) ss) (hdb : (x == ("__debug__" : Str)) = false := by decide) :
    SS g (.Try body [.ExceptHandler (some (.Name x np)) (some n) (b₀ :: suite) pos'] [] [] pos) (sTry tb i sb ss) := by
  obtain ⟨c, hc, hx⟩ := C.ex
  let tbo := fun W => (hb W).choose
  have pbo := fun W => (hb W).choose_spec.1
  have mbo := fun W => (hb W).choose_spec.2
  let ts : Addr → Value → Option Addr → TS := fun a cls d => if h : ∃ p : String × Addr, g.cn.T.exc p.1 = some p.2 ∧ tb.lookup p.1 = some true ∧ cls = .ref p.2 ∧ d = none then (hs a h.choose.1 h.choose.2 h.choose_spec.1 h.choose_spec.2.1).choose else tNever
  refine ⟨fun D σ H => tbo (wAs g.cn.K c i ts g.wx D) D σ H, fun X hX => ?_, fun σ r H W D R h => ?_⟩
  · have B := hB X hX
    rw [← B.K]
    refine ps_try_as (hst X hX).1 (hst X hX).2 (by rw [B.N]; exact B.nd) (by rw [B.N]; exact hN) (by show X.env.scope.names.lookup n = _; rw [B.sc]; exact hl) ⟨hB.gl hg X hX, hdb, by rw [B.mg]; exact hc⟩ (hR.tk X hX)
      (fun W pn xe tk ow => pbo W _ ⟨X, pn, xe, hX, rfl, tk, ow⟩) fun a oe cls d pn hz hf => ?_
    show PSs _ _ (if h : _ then _ else _)
    split
    · rename_i h
      obtain ⟨_, _, e1, e2⟩ := h.choose_spec
      exact (hs a h.choose.1 h.choose.2 h.choose_spec.1 h.choose_spec.2.1).choose_spec.1 _ ⟨X, oe, pn, hX, rfl, by rw [← e1, ← e2]; exact hz, hf⟩
    · exact pss_never
  · refine mbo (wAs g.cn.K c i ts g.wx D) σ r H W D R ?_
    have h : OutOk g.cn g.wx D H W (tryK tb i ss (sb r)) := h
    show OutOk g.cn (wAs g.cn.K c i ts g.wx D) D H W (sb r)
    cases q : sb r with
    | nx r1 => rw [q] at h; exact h
    | rt v r1 => rw [q] at h; exact h
    | bk r1 => rw [q] at h; exact h
    | ct r1 => rw [q] at h; exact h
    | bad => rw [q] at h; exact h
    | ex nm r1 =>
      rw [q, tryK_ex] at h
      intro Ca σ1 H1 W1 hC f1 R1
      cases ql : tb.lookup nm with
      | none => rw [ql] at h; exact False.elim h
      | some b =>
        rw [ql] at h
        refine ⟨b, hx nm b Ca ql hC, fun hb a ha => ?_, fun hb => ?_⟩
        · subst hb
          have hex : ∃ p : String × Addr, g.cn.T.exc p.1 = some p.2 ∧ tb.lookup p.1 = some true ∧ (Value.ref Ca) = .ref p.2 ∧ (none : Option Addr) = none := ⟨(nm, Ca), hC, ql, rfl, rfl⟩
          have e1 : hex.choose.2 = Ca := (Value.ref.inj hex.choose_spec.2.2.1).symm
          have e2 : hex.choose.1 = nm := C.inj _ _ _ _ Ca hex.choose_spec.2.1 ql (by rw [hex.choose_spec.1, e1]) hC
          show (if h : _ then _ else _ : TS) _ _ _
          rw [dif_pos hex]
          have ms := (hs a hex.choose.1 hex.choose.2 hex.choose_spec.1 hex.choose_spec.2.1).choose_spec.2
          simp only at h
          split at h
          · rename_i hfr
            have R2 : Rel (g.cn.on hex.choose.1 a) H1 W1 (σ1.set i (some (.ref a))) (r1.set i (.err nm)) := by rw [e2]; exact R1.toErr he
            refine ms _ _ H1 W1 _ R2 ?_
            have h := OutOk.shift f1 h
            cases qs : ss (r1.set i (.err nm)) with
            | nx r2 =>
              rw [qs, offErr_nx] at h
              split at h
              · rename_i hall
                exact fun σ3 H3 W3 f3 R3 => h _ H3 W3 f3 (Rel.offErr R3 hall)
              · exact False.elim h
            | rt v r2 =>
              rw [qs, offErr_rt] at h
              split at h
              · rename_i hall
                intro u σ3 H3 W3 f3 R3 rv
                exact h u _ H3 W3 f3 (Rel.offErr R3 hall) (by cases v <;> exact rv)
              · exact False.elim h
            | bk r2 => rw [qs] at h; exact False.elim h
            | ct r2 => rw [qs] at h; exact False.elim h
            | ex m r2 => rw [qs] at h; exact False.elim h
            | bad => rw [qs] at h; exact False.elim h
          · exact False.elim h
        · subst hb
          exact h Ca σ1 H1 W1 hC f1 R1
open Classical in
theorem s_tryO (hB : g.B) (hst : ∀ X, g.XP X → X.stack = X.env :: X.outer ∧ X.env.frame = some X.env.locals) (hR : g.R) (hg : g.sc.names.lookup x = some .globalImplicit) (C : Catch g x tb)
    (hb : ∀ W, SSs (g.tr W) body sb) (hs : SSs g.su0 (b₀ :: suite) ss) (hdb : (x == ("__debug__" : Str)) = false := by decide) :
    SS g (.Try body [.ExceptHandler (some (.Name x np)) none (b₀ :: suite) pos'] [] [] pos) (sTryO tb sb ss) := by
  obtain ⟨c, hc, hx⟩ := C.ex
  let tbo := fun W => (hb W).choose
  have pbo := fun W => (hb W).choose_spec.1
  have mbo := fun W => (hb W).choose_spec.2
  obtain ⟨tsu, psu, msu⟩ := hs
  refine ⟨fun D σ H => tbo (wOnly g.cn.K c (fun _ _ _ => tsu) g.wx D) D σ H, fun X hX => ?_, fun σ r H W D R h => ?_⟩
  · have B := hB X hX
    rw [← B.K]
    exact ps_try_only (hst X hX).1 (hst X hX).2 ⟨hB.gl hg X hX, hdb, by rw [B.mg]; exact hc⟩ (hR.tk X hX)
      (fun W pn xe tk ow => pbo W _ ⟨X, pn, xe, hX, rfl, tk, ow⟩) fun a oe cls d pn hz hf => psu _ ⟨X, a, oe, pn, hX, rfl⟩
  · refine mbo (wOnly g.cn.K c (fun _ _ _ => tsu) g.wx D) σ r H W D R ?_
    have h : OutOk g.cn g.wx D H W (tryO tb ss (sb r)) := h
    show OutOk g.cn (wOnly g.cn.K c (fun _ _ _ => tsu) g.wx D) D H W (sb r)
    cases q : sb r with
    | nx r1 => rw [q] at h; exact h
    | rt v r1 => rw [q] at h; exact h
    | bk r1 => rw [q] at h; exact h
    | ct r1 => rw [q] at h; exact h
    | bad => rw [q] at h; exact h
    | ex nm r1 =>
      rw [q, tryO_ex] at h
      intro Ca σ1 H1 W1 hC f1 R1
      cases ql : tb.lookup nm with
      | none => rw [ql] at h; exact False.elim h
      | some b =>
        rw [ql] at h
        refine ⟨b, hx nm b Ca ql hC, fun hb a ha => ?_, fun hb => ?_⟩
        · subst hb
          refine msu σ1 r1 H1 W1 D R1 ?_
          have h := OutOk.shift f1 h
          simp only at h
          cases qs : ss r1 with
          | ex m r2 => rw [qs] at h; exact False.elim h
          | nx r2 => rw [qs] at h; exact h
          | rt v r2 => rw [qs] at h; exact h
          | bk r2 => rw [qs] at h; exact h
          | ct r2 => rw [qs] at h; exact h
          | bad => rw [qs] at h; exact h
        · subst hb
          exact h Ca σ1 H1 W1 hC f1 R1
end
/-- a class that isinstance is asked with, of a caught error -/
structure IsE (g : Cxt) (x : Str) (tb : List (String × Bool)) : Prop where
  ex : ∃ (c : V) (cv : Value), RelV c cv ∧ (∀ u, RelV c u → u = cv) ∧ (g.mg x = some cv ∨ (g.mg x = none ∧ bootBuiltins x = some cv ∧ x ≠ "__name__")) ∧ ∀ n b D, tb.lookup n = some b → g.cn.T.exc n = some D → ExcC g.cn.K D ∧ PySem.W.kitOne g.cn.K (.ref D) cv = some b
theorem pe_never {X : Cx} {e : Expr} : PE X e fun _ _ _ => False := ⟨fun _ _ _ _ _ _ h => h.elim⟩
section
variable {g : Cxt} {x y : Str} {i : Nat} {tb : List (String × Bool)} {a D : Addr} {n : String} {p p2 p3 pos : Pos}
theorem se_isE (hB : g.B) (hN : g.N[i]? = some y) (hv : Vis g.sc y) (hg : g.sc.names.lookup ("isinstance" : Str) = some .globalImplicit) (hm : g.mg "isinstance" = none) (hg2 : g.sc.names.lookup x = some .globalImplicit) (I : IsE g x tb) (hD : g.cn.T.exc n = some D)
    (hd : (y == ("__debug__" : Str)) = false := by decide) (hcd : (y == ("__classdict__" : Str)) = false := by decide) (hd2 : (x == ("__debug__" : Str)) = false := by decide)
    (he : ∀ X, (g.su a n D).XP X → starEach [.Name y p3, .Name x p2] X.env = (false, eval (.Name y p3) X.env) :: starEach [.Name x p2] X.env := by intros; rfl) (he2 : ∀ X, (g.su a n D).XP X → starEach [.Name x p2] X.env = (false, eval (.Name x p2) X.env) :: starEach [] X.env := by intros; rfl) (hpl : ∀ X, (g.su a n D).XP X → (backTo pos (starEach [.Name x p2] X.env)).any (·.1) = false := by intros; rfl) :
    SE (g.su a n D) (.Call (.Name "isinstance" p) [.Name y p3, .Name x p2] [] pos) (eIsE tb i) := by
  obtain ⟨c, cv, rc, hcv, hx, hk⟩ := I.ex
  cases ql : tb.lookup n with
  | none =>
    refine ⟨fun _ _ _ => False, fun X _ => pe_never, fun σ r H W Q R h => ?_⟩
    simp only [eIsE] at h
    cases q : at_ r i with
    | err m =>
      rw [q] at h
      obtain ⟨a', _, e⟩ := R.slot i _ (at_some q fun z => by cases z)
      have e : some (n, a) = some (m, a') := e
      cases e
      simp only [ql] at h
      exact h
    | un => rw [q] at h; exact h
    | d z => rw [q] at h; exact h
    | own b l => rw [q] at h; exact h
    | ins b c fs => rw [q] at h; exact h
  | some b =>
    obtain ⟨xc, kt⟩ := hk n b D ql hD
    refine ⟨tCB (rIsE g.cn.K D a) (tCons (tVar i) (tCons (tC c) tNil)), fun X' hX' => ?_, fun σ r H W Q R h => ?_⟩
    · have B' := hB.su X' hX'
      have h1 := he X' hX'
      have h2 := he2 X' hX'
      have h3 := hpl X' hX'
      have gl : ∀ {z : Str}, g.sc.names.lookup z = some .globalImplicit → Gl X' z := fun {z} e => Cxt.B.gl (g := g.su a n D) hB.su e X' hX'
      have px : PE X' (.Name x p2) (tC c) := by
        rcases hx with hx | ⟨hx, hb, hn⟩
        · exact pe_glob (gl hg2) (by rw [B'.mg]; exact hx) rc hd2
        · exact pe_bltn (gl hg2) (by rw [B'.mg]; exact hx) hb rc hn hd2
      have pv : PE X' (.Name y p3) (tVar i) := pe_var (by rw [B'.N]; exact hN) (by rw [B'.sc]; exact hv) hd hcd
      have gi := gl hg
      have mi : X'.mg "isinstance" = none := by rw [B'.mg]; exact hm
      obtain ⟨X, oe, pn, hx0, rfl, hz, hf⟩ := hX'
      have B := hB X hx0
      rw [← B.K]
      refine pe_callB (id := "isinstance") (call_isE (by rw [B.K]; exact xc) hz hf) gi mi (by decide +kernel) (pa_cons pv (pa_cons px pa_nil h2) h1) (by decide) (by decide) h1 h3
    · simp only [eIsE] at h
      cases q : at_ r i with
      | err m =>
        rw [q] at h
        obtain ⟨a', es, e⟩ := R.slot i _ (at_some q fun z => by cases z)
        have e : some (n, a) = some (m, a') := e
        cases e
        simp only [ql] at h
        exact ⟨_, es, c, cv, b, rfl, hcv, kt, h (.bl b) H W Fr.refl R (.bl b)⟩
      | un => rw [q] at h; exact False.elim h
      | d z => rw [q] at h; exact False.elim h
      | own b l => rw [q] at h; exact False.elim h
      | ins b c fs => rw [q] at h; exact False.elim h
end
end SkS

namespace SkS
open PySem PySem.Spec PyProof.Rows L2 Sk
/-- the tokens of slot n are given away -/
def reW (W : Own) (n : Nat) (t : Option Tok) (tf : String → Option Tok) : Own := fun a => match W a with
  | some (.s j) => if j = n then t else some (.s j)
  | some (.f j f) => if j = n then tf f else some (.f j f)
  | x => x
section
variable {W : Own} {n : Nat} {t : Option Tok} {tf : String → Option Tok} {a : Addr}
theorem reW_none (h : W a = none) : reW W n t tf a = none := by unfold reW; rw [h]
theorem reW_same (h : ∀ j, W a ≠ some (.s j) ∨ j ≠ n) (h2 : ∀ j f, W a ≠ some (.f j f) ∨ j ≠ n) : reW W n t tf a = W a := by
  unfold reW
  cases e : W a with
  | none => rfl
  | some k =>
    cases k with
    | s j => simp only; rcases h j with q | q; exact absurd e q; rw [if_neg q]
    | f j f => simp only; rcases h2 j f with q | q; exact absurd e q; rw [if_neg q]
    | tmp => rfl
    | oth => rfl
theorem reW_s (h : W a = some (.s n)) : reW W n t tf a = t := by unfold reW; rw [h]; simp
theorem reW_f {f : String} (h : W a = some (.f n f)) : reW W n t tf a = tf f := by unfold reW; rw [h]; simp
theorem reW_s' {j : Nat} (hj : j ≠ n) (h : W a = some (.s j)) : reW W n t tf a = some (.s j) := by unfold reW; rw [h]; simp [hj]
theorem reW_f' {j : Nat} {f : String} (hj : j ≠ n) (h : W a = some (.f j f)) : reW W n t tf a = some (.f j f) := by unfold reW; rw [h]; simp [hj]
theorem reW_mv {H : Hp} : Mv H W H (reW W n t tf) := ⟨fun b o q k => ⟨q, reW_none k⟩, fun _ _ q => q, fun _ _ _ q => q⟩
theorem Fr.re {H H' : Hp} {W0 : Own} (f : Fr H W0 H' W) : Fr H W0 H' (reW W n t tf) := by
  refine ⟨fun b o q k => ?_, f.there, f.tup, f.frz⟩
  obtain ⟨h1, h2⟩ := f.keep b o q k
  refine ⟨h1, ?_⟩
  rw [reW_same, h2]
  · intro j; left; rw [h2]; rcases k with k | k | k <;> rw [k] <;> exact fun z => by cases z
  · intro j g; left; rw [h2]; rcases k with k | k | k <;> rw [k] <;> exact fun z => by cases z
end
section
variable {c : Cn} {wx : WX} {H H' : Hp} {W W' : Own} {σ : L2.St} {r r' : Slots} {x dx C : Addr} {k : String} {xs : List R} {vs : List V}
/-- no token of the caller's names slot n -/
def Cn.far (c : Cn) (n : Nat) : Prop := ∀ a, c.H0 a ≠ none → c.W0 a ≠ some (.s n) ∧ ∀ f, c.W0 a ≠ some (.f n f)
theorem Rel.far (R : Rel c H W σ r) : c.far r.length := fun a h => by
  have := (R.old a h).2
  rw [← this]
  exact ⟨fun z => absurd ((R.tk a _).1 z) (Nat.lt_irrefl _), fun f z => absurd ((R.tk a _).2 f z) (Nat.lt_irrefl _)⟩
/-- a new instance in a slot of its own behind the others -/
theorem Rel.ext (R : Rel c H W σ r) (hx : H x = none) (hd : H dx = none) (ne : dx ≠ x) (hC : c.T.cls k = some C) :
    Fr H W (upd (upd H dx (.own x)) x (.ins C dx [])) (setW (setW W dx (some .tmp)) x (some (.s r.length))) ∧
    Rel c (upd (upd H dx (.own x)) x (.ins C dx [])) (setW (setW W dx (some .tmp)) x (some (.s r.length))) (σ ++ [some (.ref x)]) (r ++ [.ins false k []]) := by
  have hx1 : upd H dx (.own x) x = none := by rw [upd_ne (Ne.symm ne)]; exact hx
  have fr : Fr H W (upd (upd H dx (.own x)) x (.ins C dx [])) (setW (setW W dx (some .tmp)) x (some (.s r.length))) := (Fr.alloc hd).trans (Fr.alloc hx1)
  have ne' : ∀ b u, H b = some u → b ≠ x ∧ b ≠ dx := fun b u q => ⟨(fun e => by subst e; rw [hx] at q; cases q), (fun e => by subst e; rw [hd] at q; cases q)⟩
  refine ⟨fr, ⟨by rw [List.length_append, List.length_append, R.len]; rfl, fun i a e => ?_, fun z q => ⟨fr.there z (R.old z q).1, ?_⟩, fun z i => ?_⟩⟩
  · by_cases hi : i < r.length
    · rw [List.getElem?_append_left hi] at e
      rw [List.getElem?_append_left (by rw [R.len]; exact hi)]
      refine (R.slot i a e).mv fr.mv (fun y u w q => ?_) (fun y ys m w q => ?_)
      · obtain ⟨n1, n2⟩ := ne' y u q
        rw [upd_ne n1, upd_ne n2, setW_ne n1, setW_ne n2]; exact ⟨q, w⟩
      · obtain ⟨n1, n2⟩ := ne' y _ q
        rw [upd_ne n1, upd_ne n2, setW_ne n1, setW_ne n2]; exact ⟨q, w⟩
    · have hi' : i = r.length := by
        have := (List.getElem?_eq_some_iff.mp e).1
        rw [List.length_append] at this
        simp at this; omega
      subst hi'
      rw [List.getElem?_append_right (Nat.le_refl _), Nat.sub_self] at e
      cases e
      refine ⟨x, C, dx, [], ?_, setW_same, hC, upd_same, .nil, List.nodup_nil, ?_⟩
      · rw [← R.len, List.getElem?_append_right (Nat.le_refl _), Nat.sub_self]; rfl
      · unfold Bor
        rw [if_neg Bool.false_ne_true]
        cases q : c.H0 x with
        | none => rfl
        | some u => exact absurd hx (R.old x (by rw [q]; exact fun z => by cases z)).1
  · have h1 := (R.old z q).1
    rw [setW_ne fun e => by subst e; exact h1 hx, setW_ne fun e => by subst e; exact h1 hd]
    exact (R.old z q).2
  · rw [List.length_append]
    show _ ∧ _
    by_cases e : z = x
    · subst e
      rw [setW_same]
      exact ⟨(fun q => by cases q; exact Nat.lt_succ_self _), (fun f q => by cases q)⟩
    · rw [setW_ne e]
      by_cases e2 : z = dx
      · subst e2
        rw [setW_same]
        exact ⟨(fun q => by cases q), (fun f q => by cases q)⟩
      · rw [setW_ne e2]
        exact ⟨fun q => Nat.lt_succ_of_lt ((R.tk z i).1 q), fun f q => Nat.lt_succ_of_lt ((R.tk z i).2 f q)⟩
theorem flds_re {n i : Nat} {t : Option Tok} : ∀ {ws : List (Str × V)} {fs : List (String × Sk.F)}, Flds c H W n ws fs → Flds c H (reW W n t fun f => some (.f i f)) i ws fs
  | _, _, .nil => .nil
  | _, _, .d r t => .d (r.mv reW_mv) (flds_re t)
  | _, _, .own w h r t => .own (reW_f w) h (r.mv reW_mv) (flds_re t)
theorem flds_frz {n : Nat} {t : Option Tok} : ∀ {ws : List (Str × V)} {fs : List (String × Sk.F)}, Flds c H W n ws fs → Rpf c.K c.T H (reW W n t fun _ => none) ws (frzF fs)
  | _, _, .nil => .nil
  | _, _, .d r t => .cons (r.mv reW_mv) (flds_frz t)
  | _, _, .own w h r t => .cons (.lst h (reW_f w) (r.mv reW_mv)) (flds_frz t)
theorem far_old {n : Nat} {t : Option Tok} {tf : String → Option Tok} (hf : c.far n) {a : Addr} (h : c.H0 a ≠ none) (e : W a = c.W0 a) : reW W n t tf a = c.W0 a := by
  obtain ⟨h1, h2⟩ := hf a h
  rw [reW_same, e]
  · intro j; by_cases q : j = n
    · subst q; left; rw [e]; exact h1
    · exact .inr q
  · intro j f; by_cases q : j = n
    · subst q; left; rw [e]; exact h2 f
    · exact .inr q
/-- the last slot is let go -/
theorem Rel.cut {a : Sk.A} {v : Option V} {t : Option Tok} {tf : String → Option Tok} (R : Rel c H W (σ ++ [v]) (r ++ [a])) (hf : c.far r.length) (ht : ∀ i, (t = some (.s i) → i < r.length) ∧ ∀ f, t = some (.f i f) → i < r.length) (htf : ∀ g i, (tf g = some (.s i) → i < r.length) ∧ ∀ f, tf g = some (.f i f) → i < r.length) : Rel c H (reW W r.length t tf) σ r := by
  have hl : σ.length = r.length := by have := R.len; rw [List.length_append, List.length_append] at this; simpa using this
  refine ⟨hl, fun i b e => ?_, fun z q => ⟨(R.old z q).1, far_old hf q (R.old z q).2⟩, fun z i => ?_⟩
  · have hi : i < r.length := (List.getElem?_eq_some_iff.mp e).1
    have := R.slot i b (by rw [List.getElem?_append_left hi]; exact e)
    rw [List.getElem?_append_left (by rw [hl]; exact hi)] at this
    exact this.mv reW_mv (fun y u w q => ⟨q, reW_s' (Nat.ne_of_lt hi) w⟩) fun y ys m w q => ⟨q, reW_f' (Nat.ne_of_lt hi) w⟩
  · have tk := fun j => R.tk z j
    have up : ∀ {j}, j < (r ++ [a]).length → j ≠ r.length → j < r.length := fun {j} h1 h2 => by rw [List.length_append] at h1; simp at h1; omega
    unfold reW
    cases e : W z with
    | none => exact ⟨(fun q => by cases q), (fun f q => by cases q)⟩
    | some k =>
      cases k with
      | tmp => exact ⟨(fun q => by cases q), (fun f q => by cases q)⟩
      | oth => exact ⟨(fun q => by cases q), (fun f q => by cases q)⟩
      | s j =>
        simp only
        by_cases q : j = r.length
        · rw [if_pos q]; exact ht i
        · rw [if_neg q]; exact ⟨(fun z => by cases z; exact up ((tk _).1 e) q), (fun f z => by cases z)⟩
      | f j g =>
        simp only
        by_cases q : j = r.length
        · rw [if_pos q]; exact htf g i
        · rw [if_neg q]; exact ⟨(fun z => by cases z), (fun f z => by cases z; exact up ((tk _).2 _ e) q)⟩
theorem last_slot {a : Sk.A} {v : Option V} (R : Rel c H W (σ ++ [v]) (r ++ [a])) : AOk c H W r.length (some v) a := by
  have hl : σ.length = r.length := by have := R.len; rw [List.length_append, List.length_append] at this; simpa using this
  have := R.slot r.length a (by rw [List.getElem?_append_right (Nat.le_refl _), Nat.sub_self]; rfl)
  rw [← hl, List.getElem?_append_right (Nat.le_refl _), Nat.sub_self, hl] at this
  exact this
/-- .. it goes to slot i -/
theorem Rel.cutTo {i : Nat} {fs : List (String × Sk.F)} (R : Rel c H W (σ ++ [some (.ref x)]) (r ++ [.ins false k fs])) (hf : c.far r.length) (hi : i < r.length) : Rel c H (reW W r.length (some (.s i)) fun f => some (.f i f)) (σ.set i (some (.ref x))) (r.set i (.ins false k fs)) := by
  have R1 := R.cut (t := some (.s i)) (tf := fun f => some (.f i f)) hf (fun j => ⟨(fun z => by cases z; exact hi), (fun f z => by cases z)⟩) fun g j => ⟨(fun z => by cases z), (fun f z => by cases z; exact hi)⟩
  obtain ⟨a, C, dx, ws, e, w, hC, hx, hfl, nd, bo⟩ := last_slot R
  cases e
  refine ⟨by rw [List.length_set, List.length_set, R1.len], fun j b ej => ?_, R1.old, by rw [List.length_set]; exact R1.tk⟩
  by_cases hj : j = i
  · subst hj
    obtain rfl := getElem?_set_self' ej
    exact ⟨x, C, dx, ws, by rw [List.getElem?_set_self (by rw [R1.len]; exact hi)], reW_s w, hC, hx, flds_re hfl, nd, by unfold Bor at bo ⊢; rw [if_neg Bool.false_ne_true] at bo ⊢; exact bo⟩
  · rw [List.getElem?_set_ne (Ne.symm hj)] at ej ⊢
    exact R1.slot j b ej
/-- .. it becomes plain data -/
theorem Rel.cutD {fs : List (String × Sk.F)} (R : Rel c H W (σ ++ [some (.ref x)]) (r ++ [.ins false k fs])) (hf : c.far r.length) : Rel c H (reW W r.length none fun _ => none) σ r ∧ Rp c.K c.T H (reW W r.length none fun _ => none) (.ref x) (.obj k (frzF fs)) := by
  obtain ⟨a, C, dx, ws, e, w, hC, hx, hfl, nd, bo⟩ := last_slot R
  cases e
  exact ⟨R.cut hf (fun j => ⟨(fun z => by cases z), (fun f z => by cases z)⟩) fun g j => ⟨(fun z => by cases z), (fun f z => by cases z)⟩, .obj hC hx (reW_s w) (flds_frz hfl)⟩
/-! the arguments beside one slot more -/
def Lt (n : Nat) (xs : List R) : Prop := ∀ i ∈ refsOf xs, i < n
theorem ltOf (RL : Rel c H W σ r) : ∀ {vs : List V} {xs : List R}, Paired (RR c H W σ) vs xs → Lt r.length xs := by
  intro vs xs h
  induction h with
  | nil => intro i hi; cases hi
  | cons p q ih =>
    rename_i v x vs xs
    cases x with
    | d x => exact ih
    | ref j =>
      intro i hi
      rcases List.mem_cons.mp hi with e | e
      · rw [e, ← RL.len]
        have : σ[j]? = some (some v) := p
        exact (List.getElem?_eq_some_iff.mp this).1
      · exact ih i e
theorem at_app {a : Sk.A} {i : Nat} (h : i < r.length) : at_ (r ++ [a]) i = at_ r i := by unfold at_; rw [List.getElem?_append_left h]
theorem at_last {a : Sk.A} : at_ (r ++ [a]) r.length = a := by unfold at_; rw [List.getElem?_append_right (Nat.le_refl _), Nat.sub_self]; rfl
theorem lends_app {a : Sk.A} : ∀ {xs : List R}, Lt r.length xs → lends xs (r ++ [a]) = lends xs r
  | [], _ => rfl
  | .d x :: xs, h => by
    show (some (Sk.A.d x)).bind _ = (some (Sk.A.d x)).bind _
    simp only [Option.bind_some]
    rw [lends_app (xs := xs) h]
  | .ref i :: xs, h => by
    have hi := h i List.mem_cons_self
    have ih := lends_app (a := a) (xs := xs) fun j hj => h j (List.mem_cons_of_mem _ hj)
    unfold lends lend
    simp only [at_app hi, ih]
theorem set_app {a b : Sk.A} {i : Nat} (h : i < r.length) : (r ++ [a]).set i b = r.set i b ++ [a] := by rw [List.set_append]; rw [if_pos h]
theorem backs_app {a : Sk.A} : ∀ {xs : List R} {os : List Sk.A} {r : Slots}, Lt r.length xs → backs xs os (r ++ [a]) = (backs xs os r).map (· ++ [a])
  | [], [], _, _ => rfl
  | [], _ :: _, _, _ => rfl
  | .d x :: xs, [], _, _ => rfl
  | .ref i :: xs, [], _, _ => rfl
  | .d x :: xs, o :: os, r, h => backs_app (xs := xs) (os := os) (r := r) h
  | .ref i :: xs, o :: os, r, h => by
    have hi := h i List.mem_cons_self
    show (back1 (at_ (r ++ [a]) i) o).bind (fun b => backs xs os ((r ++ [a]).set i b)) = ((back1 (at_ r i) o).bind fun b => backs xs os (r.set i b)).map (· ++ [a])
    rw [at_app hi]
    cases back1 (at_ r i) o with
    | none => rfl
    | some b =>
      simp only [Option.bind_some]
      rw [set_app hi]
      exact backs_app (xs := xs) (os := os) (r := r.set i b) fun j hj => by rw [List.length_set]; exact h j (List.mem_cons_of_mem _ hj)
theorem lost_app {a : Sk.A} : ∀ {xs : List R} {r : Slots}, Lt r.length xs → lost xs (r ++ [a]) = lost xs r ++ [a]
  | [], _, _ => rfl
  | .d x :: xs, r, h => lost_app (xs := xs) (r := r) h
  | .ref i :: xs, r, h => by
    have hi := h i List.mem_cons_self
    show lost xs ((r ++ [a]).set i .un) = lost xs (r.set i .un) ++ [a]
    rw [set_app hi]
    exact lost_app (xs := xs) (r := r.set i .un) fun j hj => by rw [List.length_set]; exact h j (List.mem_cons_of_mem _ hj)
theorem set_last {a b : Sk.A} : (r ++ [a]).set r.length b = r ++ [b] := by rw [List.set_append]; rw [if_neg (Nat.lt_irrefl _), Nat.sub_self]; rfl
/-- making an instance is calling __init__ on one more slot -/
theorem new_call {init : FSem} (lt : Lt r.length xs) : (∀ fs r', newV k init xs r = .ok fs r' → callV init (.ref r.length :: xs) (r ++ [.ins false k []]) = .ok (.d .non) (r' ++ [.ins false k fs])) ∧ ∀ e r', newV k init xs r = .exc e r' → callV init (.ref r.length :: xs) (r ++ [.ins false k []]) = .exc e (r' ++ [.un]) := by
  have nd : (refsOf xs).Nodup → (refsOf (.ref r.length :: xs)).Nodup := fun h => by
    unfold refsOf
    rw [List.nodup_cons]
    exact ⟨fun z => absurd (lt _ z) (Nat.lt_irrefl _), h⟩
  have hl : ∀ {as}, lends xs r = some as → lends (.ref r.length :: xs) (r ++ [.ins false k []]) = some (.ins true k [] :: as) := fun {as} h => by
    unfold lends lend
    simp only [at_last, Option.bind_some]
    rw [lends_app lt, h]; rfl
  refine ⟨fun fs r' h => ?_, fun e r' h => ?_⟩
  · unfold newV at h
    split at h
    · rename_i q
      cases h1 : lends xs r with
      | none => rw [h1] at h; cases h
      | some as =>
        rw [h1] at h
        simp only at h
        unfold callV
        rw [if_pos (nd q), hl h1]
        simp only
        cases h2 : init (.ins true k [] :: as) with
        | bad => rw [h2] at h; cases h
        | exc e => rw [h2] at h; cases h
        | ok v outs =>
          rw [h2] at h
          split at h
          · rename_i c2 fs2 outs' hq
            cases hq
            split at h
            · rename_i hk
              subst hk
              cases h3 : backs xs outs' r with
              | none => rw [h3] at h; cases h
              | some r2 =>
                rw [h3] at h
                cases h
                rw [callK_ok]
                have : backs (.ref r.length :: xs) (Sk.A.ins true k fs :: outs') (r ++ [Sk.A.ins false k []]) = some (r' ++ [Sk.A.ins false k fs]) := by
                  show (back1 (at_ (r ++ [Sk.A.ins false k []]) r.length) (.ins true k fs)).bind (fun b => backs xs outs' ((r ++ [Sk.A.ins false k []]).set r.length b)) = _
                  rw [at_last]
                  unfold back1
                  simp only [if_true, Option.bind_some]
                  rw [set_last, backs_app lt, h3]; rfl
                rw [this]
            · cases h
          · rename_i hq; cases hq
          · cases h
    · cases h
  · unfold newV at h
    split at h
    · rename_i q
      cases h1 : lends xs r with
      | none => rw [h1] at h; cases h
      | some as =>
        rw [h1] at h
        simp only at h
        unfold callV
        rw [if_pos (nd q), hl h1]
        simp only
        cases h2 : init (.ins true k [] :: as) with
        | bad => rw [h2] at h; cases h
        | exc e2 =>
          rw [h2] at h
          cases h
          rw [callK_exc]
          show Res.exc e (lost xs ((r ++ [Sk.A.ins false k []]).set r.length .un)) = _
          rw [set_last, lost_app lt]
        | ok v outs =>
          rw [h2] at h
          split at h
          · split at h
            · split at h <;> cases h
            · cases h
          · rename_i hq; cases hq
          · cases h
    · cases h
theorem rrsExt {vs : List V} {a : Option V} (R : Paired (RR c H W σ) vs xs) : Paired (RR c H W (σ ++ [a])) vs xs := Paired.mapP R fun v x h => by
  cases x with
  | d x => exact h
  | ref i =>
    have h : σ[i]? = some (some v) := h
    show (σ ++ [a])[i]? = some (some v)
    rw [List.getElem?_append_left (List.getElem?_eq_some_iff.mp h).1]
    exact h
/-- C(..) at the level of the heap: the new instance stands in one slot more -/
theorem new_low {init : FSem} {E : XK} {Q : List (String × Sk.F) → Slots → VK} (hE : wx = fun cls d _ H => E cls d H) (R : Rel c H W σ r) (rr : Paired (RR c H W σ) vs xs) (hC : c.T.cls k = some C) (hx : H x = none) (hd : H dx = none) (ne : dx ≠ x)
    {P : V → Hp → Prop} (h : ResOk c wx σ H W (fun fs r' => ∀ H' W', Fr H W H' W' → Rel c H' W' (σ ++ [some (.ref x)]) (r' ++ [.ins false k fs]) → r'.length = r.length → P (.ref x) H') (newV k init xs r)) :
    lowSp c.K c.T init (.ref x :: vs) (upd (upd H dx (.own x)) x (.ins C dx [])) (fun v H2 => v = .non ∧ P (.ref x) H2) E := by
  obtain ⟨f1, R1⟩ := R.ext hx hd ne hC
  have lt := ltOf R rr
  have rr1 : Paired (RR c _ _ (σ ++ [some (.ref x)])) (.ref x :: vs) (Sk.R.ref r.length :: xs) := .cons (by
    show (σ ++ [some (V.ref x)])[r.length]? = some (some (V.ref x))
    rw [← R.len, List.getElem?_append_right (Nat.le_refl _), Nat.sub_self]; rfl) (rrsExt (RRs.mv f1 rr))
  have hf := R.far
  have key : ResOk c wx (σ ++ [some (.ref x)]) (upd (upd H dx (.own x)) x (.ins C dx [])) (setW (setW W dx (some .tmp)) x (some (.s r.length))) (fun v r' => ∀ u H' W', Fr (upd (upd H dx (.own x)) x (.ins C dx [])) (setW (setW W dx (some .tmp)) x (some (.s r.length))) H' W' → Rel c H' W' (σ ++ [some (.ref x)]) r' → RetV c (upd (upd H dx (.own x)) x (.ins C dx [])) H' W' u v → (u = .non ∧ P (.ref x) H')) (callV init (Sk.R.ref r.length :: xs) (r ++ [Sk.A.ins false k []])) := by
    obtain ⟨n1, n2⟩ := new_call (k := k) (init := init) lt
    cases e : newV k init xs r with
    | bad => rw [e] at h; exact False.elim h
    | ok fs r' =>
      rw [e] at h
      rw [n1 fs r' e]
      intro u H' W' f2 R2 ret
      cases ret
      have hl : r'.length = r.length := by
        have := R2.len
        have h1 := R.len
        rw [List.length_append, List.length_append] at this
        simp at this; omega
      exact ⟨rfl, h H' W' (f1.trans f2) R2 hl⟩
    | exc n r' =>
      rw [e] at h
      rw [n2 n r' e]
      intro C' H' W' hC' f2 R2
      have hl : r'.length = r.length := by
        have := R2.len
        have h1 := R.len
        rw [List.length_append, List.length_append] at this
        simp at this; omega
      have R3 := R2.cut (t := none) (tf := fun _ => none) (by rw [hl]; exact hf) (fun j => ⟨(fun z => by cases z), (fun f z => by cases z)⟩) fun g j => ⟨(fun z => by cases z), (fun f z => by cases z)⟩
      have := h C' H' _ hC' (f1.trans f2).re R3
      rw [hE] at this ⊢
      exact this
  have z := call_low R1 rr1 key
  rw [hE] at z
  exact z
end
end SkS

namespace SkS
open PySem PySem.Spec PyProof.Rows L2 Sk
section
variable {g : Cxt} {a b e d : Expr} {es : List Expr} {ea eb ek ev : EV} {av : AV} {pos p p2 p3 apos : Pos}
theorem bindR {α β : Type} {c : Cn} {wx : WX} {σ : L2.St} {H : Hp} {W : Own} {x : Res α} {f : α → Slots → Res β} {P : β → Slots → Prop} (h : ResOk c wx σ H W P (x.bind f)) : ResOk c wx σ H W (fun v r' => ResOk c wx σ H W P (f v r')) x := by
  cases x with
  | ok v r => exact h
  | exc n r => exact h
  | bad => exact h
theorem sem_new {cl : String} {init : FSem} {E : XK} {Ca : Addr} {ta : TA} (hE : g.wx = fun cls d _ H => E cls d H) (hC : g.cn.T.cls cl = some Ca) (sa : SemA g.cn g.wx ta av) : SemE g.cn g.wx (tMake Ca (lowSp g.cn.K g.cn.T init) [] E ta) (eNew cl init av) := by
  intro σ r H W Q R h
  show ta σ H (fun vs H1 => ∀ x dx, H1 x = none → H1 dx = none → dx ≠ x → lowSp g.cn.K g.cn.T init (.ref x :: (vs ++ [])) (upd (upd H1 dx (.own x)) x (.ins Ca dx [])) (fun v H2 => v = .non ∧ Q (.ref x) H2) E)
  refine bindA (P := PoE g.cn σ Q) shE sa R h fun xs r1 vs H1 W1 f1 R1 rr1 h1 => ?_
  intro x dx hx hd ne
  rw [List.append_nil]
  refine new_low (Q := fun _ _ _ _ => True) hE R1 rr1 hC hx hd ne ((bindR h1).imp fun fs r' hv H' W' f2 R2 hl => ?_)
  obtain ⟨R3, rp⟩ := R2.cutD (by rw [hl]; exact R1.far)
  exact hv (.ref x) H' _ (f2.re) R3 rp
theorem pe_new {cl : String} {x : Str} {init : FSem} {ta : TA} {X : Cx} {E : XK} {Ca ad : Addr} {k : Nat} {fd : FuncData} {ps : List Str} (hB : g.B) (hR : g.R) (hE : g.wx = fun cls d _ H => E cls d H) (hx : g.XP X) (hk : k + 1 ≤ g.k) (F : FnOk g.P g.w g.cn.K g.mg g.base (L2.CX g.P g.w) k ad fd ps (lowSp g.cn.K g.cn.T init)) (mk : Mk g.cn.K Ca ad) (hm : g.mg x = some (.ref Ca)) (bi : Binds g.cn.K fd ps [])
    (hg : g.sc.names.lookup x = some .globalImplicit) (pa : PA X (e :: es) ta) (hdb : (x == ("__debug__" : Str)) = false) (he : starEach (e :: es) X.env = (false, eval e X.env) :: starEach es X.env) (hpl : (backTo pos (starEach es X.env)).any (·.1) = false) :
    PE X (.Call (.Name x p) (e :: es) [] pos) (tMake Ca (lowSp g.cn.K g.cn.T init) [] E ta) := by
  have B := hB X hx
  have F2 : FnOk X.prog X.w X.K X.mg X.base (L2.CX X.prog X.w) k ad fd ps (lowSp g.cn.K g.cn.T init) := by rw [B.P, B.w, B.K, B.mg, B.base]; exact F
  have tk := hR.tk X hx
  rw [hE] at tk
  exact pe_make (by rw [B.K]; exact mk) F2 ((hR X hx).room.mono hk) (hB.gl hg X hx) (by rw [B.mg]; exact hm) (by rw [B.K]; exact bi) .nil (passes_call tk fun _ _ _ _ h => h) pa hdb he hpl
theorem pe_new0 {cl : String} {x : Str} {init : FSem} {X : Cx} {E : XK} {Ca ad : Addr} {k : Nat} {fd : FuncData} {ps : List Str} (hB : g.B) (hR : g.R) (hE : g.wx = fun cls d _ H => E cls d H) (hx : g.XP X) (hk : k + 1 ≤ g.k) (F : FnOk g.P g.w g.cn.K g.mg g.base (L2.CX g.P g.w) k ad fd ps (lowSp g.cn.K g.cn.T init)) (mk : Mk g.cn.K Ca ad) (hm : g.mg x = some (.ref Ca)) (bi : Binds g.cn.K fd ps [])
    (hg : g.sc.names.lookup x = some .globalImplicit) (hdb : (x == ("__debug__" : Str)) = false) :
    PE X (.Call (.Name x p) [] [] pos) (tMake Ca (lowSp g.cn.K g.cn.T init) [] E tNil) := by
  have B := hB X hx
  have F2 : FnOk X.prog X.w X.K X.mg X.base (L2.CX X.prog X.w) k ad fd ps (lowSp g.cn.K g.cn.T init) := by rw [B.P, B.w, B.K, B.mg, B.base]; exact F
  have tk := hR.tk X hx
  rw [hE] at tk
  exact pe_make0 (by rw [B.K]; exact mk) F2 ((hR X hx).room.mono hk) (hB.gl hg X hx) (by rw [B.mg]; exact hm) (by rw [B.K]; exact bi) .nil (passes_call tk fun _ _ _ _ h => h) hdb
/-- C(..), read as data -/
theorem se_new {cl : String} {x : Str} {init : FSem} (hB : g.B) (hR : g.R) (hF : g.Flat) (C : NCal g cl x init) (hg : g.sc.names.lookup x = some .globalImplicit) (ha : SA g (e :: es) av)
    (hdb : (x == ("__debug__" : Str)) = false := by decide) (he : ∀ X, g.XP X → starEach (e :: es) X.env = (false, eval e X.env) :: starEach es X.env := by intros; rfl) (hpl : ∀ X, g.XP X → (backTo pos (starEach es X.env)).any (·.1) = false := by intros; rfl) :
    SE g (.Call (.Name x p) (e :: es) [] pos) (eNew cl init av) := by
  obtain ⟨E, hE⟩ := hF
  obtain ⟨Ca, k, ad, fd, ps, hC, hk, F, mk, hm, bi⟩ := C.ex
  obtain ⟨ta, pa, sa⟩ := ha
  exact ⟨_, fun X hx => pe_new (cl := cl) hB hR hE hx hk F mk hm bi hg (pa X hx) hdb (he X hx) (hpl X hx), sem_new hE hC sa⟩
theorem sem_sNew {i : Nat} {cl : String} {init : FSem} {E : XK} {Ca : Addr} {ta : TA} (hE : g.wx = fun cls d _ H => E cls d H) (hC : g.cn.T.cls cl = some Ca) (sa : SemA g.cn g.wx ta av) : SemS g.cn g.wx (tAsg (tMake Ca (lowSp g.cn.K g.cn.T init) [] E ta) (gName i)) (sNew i cl init av) := by
  intro σ r H W D R h
  show ta σ H (fun vs H1 => ∀ x dx, H1 x = none → H1 dx = none → dx ≠ x → lowSp g.cn.K g.cn.T init (.ref x :: (vs ++ [])) (upd (upd H1 dx (.own x)) x (.ins Ca dx [])) (fun v H2 => v = .non ∧ gName i (.ref x) σ H2 D.nx) E)
  refine outA sa R h fun xs r1 vs H1 W1 f1 R1 rr1 h1 => ?_
  intro x dx hx hd ne
  rw [List.append_nil]
  refine new_low (P := fun v H2 => gName i v σ H2 D.nx) (Q := fun _ _ _ _ => True) hE R1 rr1 hC hx hd ne ?_
  cases q : newV cl init xs r1 with
  | bad => rw [q] at h1; exact h1
  | exc n r2 => rw [q] at h1; exact fun C H2 W2 e f2 R2 => h1 C σ H2 W2 e f2 R2
  | ok fs r2 =>
    rw [q] at h1
    intro H2 W2 f2 R2 hl
    obtain ⟨hi, h2⟩ := store_nx h1
    exact h2 _ H2 _ f2.re (R2.cutTo (by rw [hl]; exact R1.far) hi)
/-- x = C(..) -/
theorem s_new {cl : String} {i : Nat} {x y : Str} {init : FSem} (hB : g.B) (hR : g.R) (hFl : g.Flat) (C : NCal g cl y init) (hg : g.sc.names.lookup y = some .globalImplicit) (ha : SA g (e :: es) av) (hN : g.N[i]? = some x) (hF : g.F) (hl : Loc g.sc x)
    (hdb : (y == ("__debug__" : Str)) = false := by decide) (he : ∀ X, g.XP X → starEach (e :: es) X.env = (false, eval e X.env) :: starEach es X.env := by intros; rfl) (hpl : ∀ X, g.XP X → (backTo p3 (starEach es X.env)).any (·.1) = false := by intros; rfl)
    (hs : ∀ X, g.XP X → swapsWith (.Call (.Name y p2) (e :: es) [] p3) (some (.Name x p)) pos.line X.env = pure false := by intros; rfl) : SS g (.Assign [.Name x p] (.Call (.Name y p2) (e :: es) [] p3) pos) (sNew i cl init av) := by
  obtain ⟨E, hE⟩ := hFl
  obtain ⟨Ca, k, ad, fd, ps, hC, hk, F, mk, hm, bi⟩ := C.ex
  obtain ⟨ta, pa, sa⟩ := ha
  refine ⟨_, fun X hx => ?_, sem_sNew hE hC sa⟩
  have B := hB X hx
  exact ps_set (by rw [B.N]; exact B.nd) (by rw [B.N]; exact hN) (by rw [B.sc]; exact hl) (pe_new (cl := cl) hB hR hE hx hk F mk hm bi hg (pa X hx) hdb (he X hx) (hpl X hx)) (hs X hx) (.inl (hF X hx _))
theorem s_new0 {cl : String} {i : Nat} {x y : Str} {init : FSem} (hB : g.B) (hR : g.R) (hFl : g.Flat) (C : NCal g cl y init) (hg : g.sc.names.lookup y = some .globalImplicit) (hN : g.N[i]? = some x) (hF : g.F) (hl : Loc g.sc x)
    (hdb : (y == ("__debug__" : Str)) = false := by decide)
    (hs : ∀ X, g.XP X → swapsWith (.Call (.Name y p2) [] [] p3) (some (.Name x p)) pos.line X.env = pure false := by intros; rfl) : SS g (.Assign [.Name x p] (.Call (.Name y p2) [] [] p3) pos) (sNew i cl init aNil) := by
  obtain ⟨E, hE⟩ := hFl
  obtain ⟨Ca, k, ad, fd, ps, hC, hk, F, mk, hm, bi⟩ := C.ex
  refine ⟨_, fun X hx => ?_, sem_sNew hE hC fun σ r H W Q R h => h [] H W Fr.refl R .nil⟩
  have B := hB X hx
  exact ps_set (by rw [B.N]; exact B.nd) (by rw [B.N]; exact hN) (by rw [B.sc]; exact hl) (pe_new0 (cl := cl) hB hR hE hx hk F mk hm bi hg hdb) (hs X hx) (.inl (hF X hx _))
/-! ### self.f = e -/
theorem s_fld {cl f : String} {i : Nat} {x fs : Str} (hB : g.B) (hf : fs = Str.ofString f) (K : FldOk g cl f) (hN : g.N[i]? = some x) (hv : Vis g.sc x) (ha : SE g e ev) (hd : (x == ("__debug__" : Str)) = false := by decide) (hcd : (x == ("__classdict__" : Str)) = false := by decide)
    (hs : ∀ X, g.XP X → swapsWith e (some (.Attribute (.Name x p) fs p2)) pos.line X.env = pure false := by intros; rfl) : SS g (.Assign [.Attribute (.Name x p) fs p2] e pos) (Sk.sFld cl i f ev) := by
  subst hf
  obtain ⟨ta, pa, ma⟩ := ha
  refine ⟨L2.sFld g.cn.K (tVar i) ta (Str.ofString f), fun X hx => ?_, fun σ r H W D R h => ?_⟩
  · rw [← hB.K X hx]
    exact ps_fld (pe_var (by rw [(hB X hx).N]; exact hN) (by rw [(hB X hx).sc]; exact hv) hd hcd) (pa X hx) (hs X hx)
  · show ta σ H (fun y H1 => ∃ v, σ[i]? = some (some v) ∧ ∃ a C dx fs, v = .ref a ∧ H1 a = some (.ins C dx fs) ∧ Cls g.cn.K C ∧ NoAttr g.cn.K C (Str.ofString f) ∧ fs.length < 1000 ∧ D.nx σ (upd H1 a (.ins C dx (putF (Str.ofString f) y fs))))
    refine outE (Q := fun y H1 => ∃ v, σ[i]? = some (some v) ∧ ∃ a C dx fs, v = .ref a ∧ H1 a = some (.ins C dx fs) ∧ Cls g.cn.K C ∧ NoAttr g.cn.K C (Str.ofString f) ∧ fs.length < 1000 ∧ D.nx σ (upd H1 a (.ins C dx (putF (Str.ofString f) y fs)))) ma R h fun y r1 v H1 W1 f1 R1 rr1 h1 => ?_
    cases y with
    | ref j => exact False.elim h1
    | d y =>
      cases q : at_ r1 i with
      | un => rw [q] at h1; exact False.elim h1
      | d z => rw [q] at h1; exact False.elim h1
      | own b l => rw [q] at h1; exact False.elim h1
      | err n => rw [q] at h1; exact False.elim h1
      | ins b cl' fs' =>
        rw [q] at h1
        simp only at h1
        split at h1
        · rename_i hc
          obtain ⟨hc, hz⟩ := hc
          subst hc
          obtain ⟨e0, ad, C, dx, vs, es, w, hC, hx, hfl, nd, bo⟩ := slot_ins R1 q
          obtain ⟨k1, k2⟩ := K.ok _ hC
          obtain ⟨fr, R2⟩ := R1.wrIns e0 es w hC hx (flds_put (f := f) rr1 hfl) (putFl_keys nd).1 bo
          refine ⟨_, es, ad, C, dx, vs, rfl, hx, k1, k2, ?_, h1 σ _ _ fr R2⟩
          rw [flds_len hfl]
          have : fs'.length < 900 := hz
          omega
        · exact False.elim h1
/-- self.f = a new list -/
theorem s_fldOwn {cl f : String} {i : Nat} {x fs : Str} (hB : g.B) (hf : fs = Str.ofString f) (K : FldOk g cl f) (hN : g.N[i]? = some x) (hv : Vis g.sc x) (ha : SL g e ev) (hd : (x == ("__debug__" : Str)) = false := by decide) (hcd : (x == ("__classdict__" : Str)) = false := by decide)
    (hs : ∀ X, g.XP X → swapsWith e (some (.Attribute (.Name x p) fs p2)) pos.line X.env = pure false := by intros; rfl) : SS g (.Assign [.Attribute (.Name x p) fs p2] e pos) (sFldOwn cl i f ev) := by
  subst hf
  obtain ⟨ta, pa, ma, ml⟩ := ha
  refine ⟨L2.sFld g.cn.K (tVar i) ta (Str.ofString f), fun X hx => ?_, fun σ r H W D R h => ?_⟩
  · rw [← hB.K X hx]
    exact ps_fld (pe_var (by rw [(hB X hx).N]; exact hN) (by rw [(hB X hx).sc]; exact hv) hd hcd) (pa X hx) (hs X hx)
  · show ta σ H (fun y H1 => ∃ v, σ[i]? = some (some v) ∧ ∃ a C dx fs, v = .ref a ∧ H1 a = some (.ins C dx fs) ∧ Cls g.cn.K C ∧ NoAttr g.cn.K C (Str.ofString f) ∧ fs.length < 1000 ∧ D.nx σ (upd H1 a (.ins C dx (putF (Str.ofString f) y fs))))
    refine outL (Q := fun y H1 => ∃ v, σ[i]? = some (some v) ∧ ∃ a C dx fs, v = .ref a ∧ H1 a = some (.ins C dx fs) ∧ Cls g.cn.K C ∧ NoAttr g.cn.K C (Str.ofString f) ∧ fs.length < 1000 ∧ D.nx σ (upd H1 a (.ins C dx (putF (Str.ofString f) y fs)))) ma R h fun l r1 al xs H1 W1 f1 R1 wt n hxl rx h1 => ?_
    cases q : at_ r1 i with
    | un => rw [q] at h1; exact False.elim h1
    | d z => rw [q] at h1; exact False.elim h1
    | own b l => rw [q] at h1; exact False.elim h1
    | err n => rw [q] at h1; exact False.elim h1
    | ins b cl' fs' =>
      rw [q] at h1
      simp only at h1
      split at h1
      · rename_i hc
        obtain ⟨hc, hz⟩ := hc
        subst hc
        obtain ⟨e0, ad, C, dx, vs, es, w, hC, hx, hfl, nd, bo⟩ := slot_ins R1 q
        obtain ⟨k1, k2⟩ := K.ok _ hC
        have hi : i < r1.length := (List.getElem?_eq_some_iff.mp e0).1
        have mv : Mv H1 W1 H1 (setW W1 al (some (.f i f))) := ⟨fun b o q k => ⟨q, by rw [setW_ne fun z => by subst z; rw [wt] at k; cases k]; exact k⟩, fun _ _ q => q, fun _ _ _ q => q⟩
        have ks : ∀ {y : Addr} {t : Tok}, t ≠ .tmp → W1 y = some t → setW W1 al (some (.f i f)) y = some t := fun {y t} ht hy => by
          rw [setW_ne fun z => by subst z; rw [wt] at hy; cases hy; exact ht rfl]; exact hy
        have h0 : g.cn.H0 al = none := by
          cases q : g.cn.H0 al with
          | none => rfl
          | some u => exact absurd n (R.old al (by rw [q]; exact fun z => by cases z)).1
        have R2 : Rel g.cn H1 (setW W1 al (some (.f i f))) σ r1 := by
          refine ⟨R1.len, fun j u ej => (R1.slot j u ej).mv mv (fun y o w q => ⟨q, ks (fun z => by cases z) w⟩) (fun y ys m w q => ⟨q, ks (fun z => by cases z) w⟩), fun z q => ⟨(R1.old z q).1, ?_⟩, R1.tk.set fun k => ⟨(fun z => by cases z), (fun f z => by cases z; exact hi)⟩⟩
          rw [setW_ne fun e => by subst e; exact q h0]
          exact (R1.old z q).2
        have hfl2 : Flds g.cn H1 (setW W1 al (some (.f i f))) i vs fs' := hfl.mv mv fun y ys m w q => ⟨q, ks (fun z => by cases z) w⟩
        obtain ⟨fr, R3⟩ := R2.wrIns e0 es (ks (fun z => by cases z) w) hC hx (flds_putO (f := f) setW_same hxl (rx.mv mv) hfl2) (putFl_keys nd).1 bo
        refine ⟨_, es, ad, C, dx, vs, rfl, hx, k1, k2, ?_, h1 σ _ _ ((f1.newTag n).trans fr |> fun z => ?_) R3⟩
        · rw [flds_len hfl]
          have : fs'.length < 900 := hz
          omega
        · exact z
      · exact False.elim h1
end
end SkS

namespace SkS
open PySem PySem.Spec PyProof.Rows L2 Sk
/-! ### expressions that make at most new objects -/
structure Grow (H : Hp) (W : Own) (H' : Hp) (W' : Own) : Prop where
  keep : ∀ a o, H a = some o → H' a = some o ∧ W' a = W a
theorem Grow.refl {H : Hp} {W : Own} : Grow H W H W := ⟨fun _ _ h => ⟨h, rfl⟩⟩
theorem Grow.trans {H H1 H2 : Hp} {W W1 W2 : Own} (a : Grow H W H1 W1) (b : Grow H1 W1 H2 W2) : Grow H W H2 W2 := ⟨fun x o h => ⟨(b.keep x o (a.keep x o h).1).1, ((b.keep x o (a.keep x o h).1).2).trans (a.keep x o h).2⟩⟩
theorem Grow.fr {H H' : Hp} {W W' : Own} (h : Grow H W H' W') : Fr H W H' W' := by
  refine ⟨fun a o q _ => h.keep a o q, fun a q => ?_, fun a xs q => (h.keep a _ q).1, fun a o xs q => (h.keep a _ q).1⟩
  cases e : H a with
  | none => exact absurd e q
  | some o => rw [(h.keep a o e).1]; exact fun z => by cases z
theorem Grow.alloc {H : Hp} {W : Own} {p : Addr} {o : HO} {t : Option Tok} (h : H p = none) : Grow H W (upd H p o) (setW W p t) := ⟨fun a u q => by
  have n : a ≠ p := fun e => by subst e; rw [h] at q; cases q
  rw [upd_ne n, setW_ne n]; exact ⟨q, rfl⟩⟩
def SemX (c : Cn) (te : TE) (ev : EV) : Prop := ∀ (σ : L2.St) (r : Slots) (H : Hp) (W : Own) (Q : VK), Rel c H W σ r →
  (∃ x, ev r = .ok x r ∧ ∀ v H' W', Grow H W H' W' → Rel c H' W' σ r → RR c H' W' σ v x → Q v H') → te σ H Q
/-- no exception leaves it -/
def NoX {α : Type} (o : Res α) : Prop := ∀ n r, o ≠ .exc n r
theorem NoX.ok {α : Type} {a : α} {r : Slots} : NoX (.ok a r) := fun _ _ => by nofun
theorem NoX.bad {α : Type} : NoX (.bad : Res α) := fun _ _ => by nofun
theorem NoX.opt {o : Option Sk.D} {r : Slots} : NoX (ofOpt o r) := by cases o <;> intro _ _ h <;> cases h
theorem NoX.bind {α β : Type} {x : Res α} {f : α → Slots → Res β} (h : NoX x) (k : ∀ a r, NoX (f a r)) : NoX (x.bind f) := by
  cases x with
  | ok a r => exact k a r
  | exc n r => exact absurd rfl (h n r)
  | bad => exact NoX.bad
def SX (g : Cxt) (e : Expr) (ev : EV) : Prop := ∃ te, (∀ X, g.XP X → PE X e te) ∧ SemX g.cn te ev ∧ (∀ r x r', ev r = .ok x r' → r' = r) ∧ ∀ r, NoX (ev r)
def SemXA (c : Cn) (ta : TA) (av : AV) : Prop := ∀ (σ : L2.St) (r : Slots) (H : Hp) (W : Own) (Q : List V → Hp → Prop), Rel c H W σ r →
  (∃ xs, av r = .ok xs r ∧ ∀ vs H' W', Grow H W H' W' → Rel c H' W' σ r → Paired (RR c H' W' σ) vs xs → Q vs H') → ta σ H Q
def SXA (g : Cxt) (es : List Expr) (av : AV) : Prop := ∃ ta, (∀ X, g.XP X → PA X es ta) ∧ SemXA g.cn ta av ∧ (∀ r xs r', av r = .ok xs r' → r' = r) ∧ ∀ r, NoX (av r)
section
variable {g : Cxt} {a b e d : Expr} {es : List Expr} {ea eb ek ev : EV} {av : AV} {pos p p2 p3 apos : Pos}
theorem sx_var {i : Nat} {x : Str} (hB : g.B) (hN : g.N[i]? = some x) (hv : Vis g.sc x) (hd : (x == ("__debug__" : Str)) = false := by decide) (hcd : (x == ("__classdict__" : Str)) = false := by decide) : SX g (.Name x pos) (eVar i) := by
  have same : ∀ r y r', eVar i r = .ok y r' → r' = r := fun r y r' h => by
    unfold eVar at h
    cases q : at_ r i <;> rw [q] at h <;> cases h <;> rfl
  refine ⟨tVar i, fun X hx => pe_var (by rw [(hB X hx).N]; exact hN) (by rw [(hB X hx).sc]; exact hv) hd hcd, fun σ r H W Q R h => ?_, same, fun r => by unfold eVar; split <;> nofun⟩
  obtain ⟨y, h, k⟩ := h
  unfold eVar at h
  cases q : at_ r i with
  | un => rw [q] at h; cases h
  | err n => rw [q] at h; cases h
  | d x =>
    rw [q] at h; cases h
    obtain ⟨v, es, rv⟩ := R.slot i _ (at_some q fun z => by cases z)
    exact ⟨v, es, k v H W Grow.refl R rv⟩
  | own b l =>
    rw [q] at h; cases h
    obtain ⟨ad, xs, es, _⟩ := R.slot i _ (at_some q fun z => by cases z)
    exact ⟨_, es, k _ H W Grow.refl R es⟩
  | ins b n fs =>
    rw [q] at h; cases h
    obtain ⟨ad, C, dx, vs, es, _⟩ := R.slot i _ (at_some q fun z => by cases z)
    exact ⟨_, es, k _ H W Grow.refl R es⟩
theorem sx_int {i : Int} {j : Nat} : SX g (.Constant (.int i) j pos) (eC (.int i)) := ⟨_, fun X _ => pe_int, fun σ r H W Q R ⟨x, h, k⟩ => by cases h; exact k (.int i) H W Grow.refl R (.int i), (fun r x r' h => by cases h; rfl), fun r => NoX.ok⟩
/-- self.f of data -/
theorem sx_fld {c f : String} {fs : Str} (hB : g.B) (hf : fs = Str.ofString f) (K : FldOk g c f) (ha : SX g a ea) (hb : ∀ X, g.XP X → attributeBase a fs X.env (eval a X.env) = eval a X.env := by intros; rfl) : SX g (.Attribute a fs pos) (eFld c ea f) := by
  subst hf
  obtain ⟨ta, pa, sa, same, nx⟩ := ha
  have out : ∀ r y r', eFld c ea f r = .ok y r' → ∃ x, ea r = .ok x r ∧ r' = r ∧ (∃ z, y = .d z ∧ ((∃ fs, x = .d (.obj c fs) ∧ fs.lookup f = some z) ∨ ∃ i b fs, x = .ref i ∧ at_ r i = .ins b c fs ∧ lookF fs f = some (.d z))) := fun r y r' h => by
    unfold eFld at h
    cases q : ea r with
    | bad => rw [q] at h; cases h
    | exc n r2 => rw [q] at h; cases h
    | ok x r2 =>
      have := same _ _ _ q
      subst this
      rw [q] at h
      simp only [Res.bind_ok] at h
      cases x with
      | d x =>
        cases x with
        | obj c' fs =>
          simp only at h
          split at h
          · rename_i hc
            subst hc
            cases q2 : fs.lookup f with
            | none => rw [q2] at h; cases h
            | some z => rw [q2] at h; cases h; exact ⟨_, rfl, rfl, z, rfl, .inl ⟨fs, rfl, q2⟩⟩
          · cases h
        | _ => cases h
      | ref i =>
        simp only at h
        cases q1 : at_ r2 i with
        | ins b c' fs =>
          rw [q1] at h
          simp only at h
          split at h
          · rename_i hc
            subst hc
            cases q2 : lookF fs f with
            | none => rw [q2] at h; cases h
            | some F =>
              rw [q2] at h
              cases F with
              | own l => cases h
              | d z => cases h; exact ⟨_, rfl, rfl, z, rfl, .inr ⟨i, b, fs, rfl, q1, q2⟩⟩
          · cases h
        | un => rw [q1] at h; cases h
        | d z => rw [q1] at h; cases h
        | own b l => rw [q1] at h; cases h
        | err n => rw [q1] at h; cases h
  refine ⟨tFld g.cn.K ta (Str.ofString f), fun X hx => ?_, fun σ r H W Q R h => ?_, fun r y r' h => (out r y r' h).choose_spec.2.1, fun r => (nx r).bind fun x r1 => by (repeat' split) <;> first | exact NoX.bad | exact NoX.ok | exact NoX.opt⟩
  · rw [← hB.K X hx]; exact pe_fld (pa X hx) (hb X hx)
  · obtain ⟨y, h, k⟩ := h
    obtain ⟨x, h1, _, z, rfl, h2⟩ := out _ _ _ h
    refine sa σ r H W _ R ⟨x, h1, fun v H1 W1 g1 R1 rr1 => ?_⟩
    rcases h2 with ⟨fs, rfl, h3⟩ | ⟨i, bb, fs, rfl, h3, h4⟩
    · cases rr1 with
      | obj hC hx w rf =>
        obtain ⟨v', hv, rv⟩ := rpf_d (c := g.cn) rf h3
        obtain ⟨k1, k2⟩ := K.ok _ hC
        exact ⟨_, _, _, _, v', rfl, hx, k1, k2, hv, k v' H1 W1 g1 R1 rv⟩
    · obtain ⟨e0, ad, C, dx, vs, es, w, hC, hx, hf, nd, bo⟩ := slot_ins R1 h3
      obtain ⟨v', hv, rv⟩ := fld_d hf h4
      obtain ⟨k1, k2⟩ := K.ok _ hC
      have es' : σ[i]? = some (some v) := rr1
      rw [es] at es'; cases es'
      exact ⟨_, _, _, _, v', rfl, hx, k1, k2, hv, k v' H1 W1 g1 R1 rv⟩
theorem RR.grow {c : Cn} {H H' : Hp} {W W' : Own} {σ : L2.St} {v : V} {x : R} (f : Grow H W H' W') (h : RR c H W σ v x) : RR c H' W' σ v x := h.mv f.fr
theorem RRs.grow {c : Cn} {H H' : Hp} {W W' : Own} {σ : L2.St} {vs : List V} {xs : List R} (f : Grow H W H' W') (h : Paired (RR c H W σ) vs xs) : Paired (RR c H' W' σ) vs xs := Paired.mapP h fun _ _ z => RR.grow f z
theorem sx_nil : SXA g [] aNil := ⟨_, fun X _ => pa_nil, fun σ r H W Q R ⟨xs, h, k⟩ => by cases h; exact k [] H W Grow.refl R .nil, (fun r xs r' h => by cases h; rfl), fun r => NoX.ok⟩
theorem sx_cons (h1 : SX g e ev) (h2 : SXA g es av) (hs : ∀ X, g.XP X → starEach (e :: es) X.env = (false, eval e X.env) :: starEach es X.env := by intros; rfl) : SXA g (e :: es) (aCons ev av) := by
  obtain ⟨te, pe, se, s1, x1⟩ := h1
  obtain ⟨ta, pa, sa, s2, x2⟩ := h2
  have out : ∀ r ys r', aCons ev av r = .ok ys r' → r' = r ∧ ∃ x xs, ys = x :: xs ∧ ev r = .ok x r ∧ av r = .ok xs r := fun r ys r' h => by
    unfold aCons at h
    cases q1 : ev r with
    | bad => rw [q1] at h; cases h
    | exc n r2 => rw [q1] at h; cases h
    | ok x r2 =>
      have := s1 _ _ _ q1
      subst this
      rw [q1] at h
      simp only [Res.bind_ok] at h
      cases q2 : av r2 with
      | bad => rw [q2] at h; cases h
      | exc n r3 => rw [q2] at h; cases h
      | ok xs r3 =>
        have := s2 _ _ _ q2
        subst this
        rw [q2] at h
        cases h
        exact ⟨rfl, x, xs, rfl, rfl, rfl⟩
  refine ⟨tCons te ta, fun X x => pa_cons (pe X x) (pa X x) (hs X x), fun σ r H W Q R h => ?_, fun r ys r' h => (out r ys r' h).1, fun r => (x1 r).bind fun x r1 => (x2 r1).bind fun xs r2 => NoX.ok⟩
  obtain ⟨ys, h, k⟩ := h
  obtain ⟨_, x, xs, rfl, q1, q2⟩ := out _ _ _ h
  refine se σ r H W _ R ⟨x, q1, fun v H1 W1 g1 R1 rr1 => ?_⟩
  refine sa σ r H1 W1 _ R1 ⟨xs, q2, fun vs H2 W2 g2 R2 rr2 => ?_⟩
  exact k (v :: vs) H2 W2 (g1.trans g2) R2 (.cons (rr1.grow g2) rr2)
theorem sx_tup {k : Nat} (h : SXA g es av) : SX g (.Tuple es k pos) (eTup av) := by
  obtain ⟨ta, pa, sa, s1, x1⟩ := h
  have out : ∀ r y r', eTup av r = .ok y r' → r' = r ∧ ∃ xs l, av r = .ok xs r ∧ datas xs = some l ∧ Fits l.length ∧ y = .d (.tup l) := fun r y r' h => by
    unfold eTup at h
    cases q1 : av r with
    | bad => rw [q1] at h; cases h
    | exc n r2 => rw [q1] at h; cases h
    | ok xs r2 =>
      have := s1 _ _ _ q1
      subst this
      rw [q1] at h
      simp only [Res.bind_ok] at h
      cases q2 : datas xs with
      | none => rw [q2] at h; cases h
      | some l =>
        rw [q2] at h
        simp only at h
        split at h
        · rename_i hz; cases h; exact ⟨rfl, xs, l, rfl, q2, hz, rfl⟩
        · cases h
  refine ⟨tTup ta, fun X x => pe_tup (pa X x), fun σ r H W Q R h => ?_, fun r y r' h => (out r y r' h).1, fun r => (x1 r).bind fun x r1 => by (repeat' split) <;> first | exact NoX.bad | exact NoX.ok⟩
  obtain ⟨y, h, k⟩ := h
  obtain ⟨_, xs, l, q1, q2, hz, rfl⟩ := out _ _ _ h
  refine sa σ r H W _ R ⟨xs, q1, fun vs H1 W1 g1 R1 rr1 => ?_⟩
  have rs := datas_rps rr1 q2
  refine ⟨by rw [rs.len, ← line_eq]; exact hz, fun p hp => ?_⟩
  have t := Tr.new (c := g.cn) (W := W1) (o := .tup vs) (t := none) hp
  exact k _ _ _ (g1.trans (Grow.alloc hp)) (t.2 σ r R1) (.tup (SqT.of upd_same) (rs.mv t.1.mv))
/-- x[i] of a tuple -/
theorem sx_item (hK : ∀ X, g.XP X → X.K = g.cn.K) (ha : SX g a ea) (hb : SX g b eb) (hs : PlainIx b) : SX g (.Subscript a b pos) (eOp opItemS ea eb) := by
  obtain ⟨ta, pa, sa, s1, x1⟩ := ha
  obtain ⟨tb, pb, sb, s2, x2⟩ := hb
  have out : ∀ r y r', eOp opItemS ea eb r = .ok y r' → r' = r ∧ ∃ x i u v z, ea r = .ok x r ∧ eb r = .ok i r ∧ x.val r = some u ∧ i.val r = some v ∧ opItemS u v = some z ∧ y = .d z := fun r y r' h => by
    unfold eOp at h
    cases q1 : ea r with
    | bad => rw [q1] at h; cases h
    | exc n r2 => rw [q1] at h; cases h
    | ok x r2 =>
      have := s1 _ _ _ q1
      subst this
      rw [q1] at h
      simp only [Res.bind_ok] at h
      cases q2 : eb r2 with
      | bad => rw [q2] at h; cases h
      | exc n r3 => rw [q2] at h; cases h
      | ok i r3 =>
        have := s2 _ _ _ q2
        subst this
        rw [q2] at h
        simp only [Res.bind_ok] at h
        cases ex : x.val r3 with
        | none => rw [ex] at h; cases h
        | some u =>
          cases ey : i.val r3 with
          | none => rw [ex, ey] at h; cases h
          | some v =>
            rw [ex, ey] at h
            simp only [Option.bind_some] at h
            cases eo : opItemS u v with
            | none => rw [eo] at h; cases h
            | some z => rw [eo] at h; cases h; exact ⟨rfl, x, i, u, v, z, rfl, rfl, ex, ey, eo, rfl⟩
  refine ⟨tOp (rIx g.cn.K) ta tb, fun X x => pe_ix (by rw [← hK X x]; exact ix_seq) (pa X x) (pb X x) hs, fun σ r H W Q R h => ?_, fun r y r' h => (out r y r' h).1, fun r => (x1 r).bind fun x r1 => (x2 r1).bind fun y r2 => NoX.opt⟩
  obtain ⟨y, h, k⟩ := h
  obtain ⟨_, x, i, u, v, z, q1, q2, ex, ey, eo, rfl⟩ := out _ _ _ h
  refine sa σ r H W _ R ⟨x, q1, fun xv H1 W1 g1 R1 rr1 => ?_⟩
  refine sb σ r H1 W1 _ R1 ⟨i, q2, fun iv H2 W2 g2 R2 rr2 => ?_⟩
  have rx := (rr1.grow g2).rv R2 ex
  have ry := rr2.rv R2 ey
  cases u with
  | tup l =>
    cases v with
    | int j =>
      obtain ⟨a, xs, rfl, h, r1⟩ := rx.tup
      obtain ⟨w, h1, h2⟩ := r1.item (show itemK l j = some z from eo)
      exact .inr (.inl ⟨a, xs, j, w, rfl, ry.int, h, h1, k w H2 W2 (g1.trans g2) R2 h2⟩)
    | _ => cases eo
  | lst l =>
    cases v with
    | int j =>
      obtain ⟨a, xs, rfl, h, r1⟩ := rx.lst
      obtain ⟨w, h1, h2⟩ := r1.item (show itemK l j = some z from eo)
      exact .inl ⟨a, xs, j, w, rfl, ry.int, SqL.of h, h1, k w H2 W2 (g1.trans g2) R2 h2⟩
    | _ => cases eo
  | str s =>
    cases v with
    | int j =>
      obtain ⟨e1, h1⟩ := rx.str
      have e' : (itemK s j).map (fun ch => Sk.D.str [ch]) = some z := eo
      cases q : itemK s j with
      | none => rw [q] at e'; cases e'
      | some ch =>
        rw [q] at e'
        cases e'
        refine .inr (.inr ⟨_, j, ch, e1, ry.int, by rw [str_len]; exact h1, ?_, k _ H2 W2 (g1.trans g2) R2 (.str [ch] (by rw [sizeLine_eq]; simp))⟩)
        exact q
    | _ => cases eo
  | _ => cases v <;> cases eo
/-! ### the list self.f -/
theorem se_fapp {c f : String} {i : Nat} {x fs : Str} {cpos : Pos} (hB : g.B) (hf : fs = Str.ofString f) (K : FldOk g c f) (hN : g.N[i]? = some x) (hv : Vis g.sc x) (ha : SX g e ev) (hd : (x == ("__debug__" : Str)) = false := by decide) (hcd : (x == ("__classdict__" : Str)) = false := by decide)
    (hbase : ∀ X, g.XP X → attributeBase (.Attribute (.Name x p) fs pos) "append" X.env (eval (.Attribute (.Name x p) fs pos) X.env) = eval (.Attribute (.Name x p) fs pos) X.env := by intros; rfl)
    (hfew : ∀ X, g.XP X → ((backTo cpos (starEach [e] X.env)).all (fun x => !x.1) && (backToKw cpos (keywordEach [] X.env)).all (fun x => x.1.isSome) && decide ([e].length + ([] : List Keyword).length + (if ([] : List Keyword).isEmpty then 0 else 1) < 30)) = true := by intros; rfl)
    (hline : (apos.endLine == cpos.line) = true := by rfl) (hs : ∀ X, g.XP X → starEach [e] X.env = (false, eval e X.env) :: starEach [] X.env := by intros; rfl) (hplain : ∀ X, g.XP X → (backTo cpos (starEach [] X.env)).any (·.1) = false := by intros; rfl) :
    SE g (.Call (.Attribute (.Attribute (.Name x p) fs pos) "append" apos) [e] [] cpos) (eFApp c i f ev) := by
  subst hf
  obtain ⟨ta, pa, sa, s1, x1⟩ := ha
  refine ⟨tBM g.cn.K "list" rAppend (tFld g.cn.K (tVar i) (Str.ofString f)) (tCons ta tNil), fun X hx => ?_, fun σ r H W Q R h => ?_⟩
  · rw [← hB.K X hx]
    refine pe_bm PySem.F.plainAttrs_list PySem.F.slot_list_append PySem.F.type_list_append mt_append ?_ (pa_cons (pa X hx) pa_nil (hs X hx)) (hbase X hx) (hfew X hx) hline (hs X hx) (hplain X hx)
    rw [hB.K X hx]
    exact pe_self hB hx hN hv hd hcd
  · unfold eFApp at h
    cases q : fldL c i f r with
    | none => rw [q] at h; exact False.elim h
    | some l =>
      rw [q] at h
      obtain ⟨b, fs, ad, C, dx, vs, al, xs, e1, e0, es, w, hC, hx, hf, nd, bo, q2, hv, wl, hl, rl⟩ := fldl_at R q
      obtain ⟨k1, k2⟩ := K.ok _ hC
      refine ⟨_, es, ad, C, dx, vs, .ref al, rfl, hx, k1, k2, hv, .inl ⟨rfl, xs, SqL.of hl⟩, ?_⟩
      show ta σ H (fun y H2 => rAppend (.ref al) [y] H2 Q)
      simp only at h
      cases q3 : ev r with
      | bad => rw [q3] at h; exact False.elim h
      | exc n r1 =>
        rw [q3] at h
        exact absurd q3 (x1 r n r1)
      | ok y r1 =>
        have := s1 _ _ _ q3
        subst this
        rw [q3] at h
        simp only [Res.bind_ok] at h
        refine sa σ r1 H W _ R ⟨y, q3, fun v H1 W1 g1 R1 rr1 => ?_⟩
        cases y with
        | ref j => exact False.elim h
        | d y =>
          have h : ResOk g.cn g.wx σ H W (PoE g.cn σ Q H W) (if Fit1 l.length then .ok (.d .non) (setFL i f (l ++ [y]) r1) else .bad) := h
          split at h
          · rename_i hz
            obtain ⟨b, fs, ad', C', dx', vs', al', xs', e1', e0', es', w', hC', hx', hf', nd', bo', q2', hv', wl', hl', rl'⟩ := fldl_at R1 q
            rw [es] at es'; cases es'
            rw [(g1.keep _ _ hx).1] at hx'; cases hx'
            rw [hv] at hv'; cases hv'
            rw [(g1.keep _ _ hl).1] at hl'; cases hl'
            have rn : Rps g.cn.K g.cn.T H1 W1 (xs ++ [v]) (l ++ [y]) := rl'.app (.cons rr1 .nil)
            obtain ⟨f2, R2⟩ := R1.wrFld e0' es w' hC' (g1.keep _ _ hx).1 hf' nd' bo' q2' hv wl' (g1.keep _ _ hl).1 rn
            have eset : setFL i f (l ++ [y]) r1 = r1.set i (.ins b c (putFl f (.own (l ++ [y])) fs)) := by unfold setFL; rw [e1']
            rw [eset] at h
            exact ⟨al, xs, v, rfl, rfl, (g1.keep _ _ hl).1, by rw [rl.len, ← line_eq]; exact hz, h .non _ _ (g1.fr.trans f2) R2 .non⟩
          · exact False.elim h
/-- self.f[:e], a new list -/
theorem sl_fcut {c f : String} {i : Nat} {x fs : Str} (hB : g.B) (hf : fs = Str.ofString f) (K : FldOk g c f) (hN : g.N[i]? = some x) (hv : Vis g.sc x) (ha : SX g e ev) (hd : (x == ("__debug__" : Str)) = false := by decide) (hcd : (x == ("__classdict__" : Str)) = false := by decide) :
    SL g (.Subscript (.Attribute (.Name x p) fs p3) (.Slice none (some e) none p2) pos) (eFCut c i f ev) := by
  subst hf
  obtain ⟨ta, pa, sa, s1, x1⟩ := ha
  refine ⟨tSl (rSlAll g.cn.K) (tFld g.cn.K (tVar i) (Str.ofString f)) (fun _ H Q => Q none H) (fun σ H Q => ta σ H fun x H1 => ∃ i, x = .int i ∧ Q (some i) H1), fun X hx => pe_slice (by rw [← hB.K X hx]; exact sl_all) (pe_self hB hx hN hv hd hcd) po_none (po_some (pa X hx)), fun σ r H W Q R h => ?_, fun r x r' h => ?_⟩
  · unfold eFCut at h
    cases q : fldL c i f r with
    | none => rw [q] at h; exact False.elim h
    | some l =>
      rw [q] at h
      obtain ⟨b, fs, ad, C, dx, vs, al, xs, e1, e0, es, w, hC, hx, hf, nd, bo, q2, hv, wl, hl, rl⟩ := fldl_at R q
      obtain ⟨k1, k2⟩ := K.ok _ hC
      refine ⟨_, es, ad, C, dx, vs, .ref al, rfl, hx, k1, k2, hv, ?_⟩
      show ta σ H (fun x H1 => ∃ i, x = .int i ∧ rSlAll g.cn.K (.ref al) none (some i) H1 Q)
      simp only at h
      cases q3 : ev r with
      | bad => rw [q3] at h; exact False.elim h
      | exc n r1 => exact absurd q3 (x1 r n r1)
      | ok y r1 =>
        have := s1 _ _ _ q3
        subst this
        rw [q3] at h
        simp only [Res.bind_ok] at h
        refine sa σ r1 H W _ R ⟨y, q3, fun v H1 W1 g1 R1 rr1 => ?_⟩
        cases y with
        | ref j => exact False.elim h
        | d y =>
          cases y with
          | int k =>
            cases rr1
            refine ⟨k, rfl, .inr (.inr ⟨al, xs, rfl, SqL.of (g1.keep _ _ hl).1, fun p hp => ?_⟩)⟩
            have t := Tr.new (c := g.cn) (W := W1) (o := .lst (cutV xs none (some k))) (t := some .tmp) hp
            have rl1 : Rps g.cn.K g.cn.T H1 W1 xs l := rl.mv g1.fr.mv
            exact h (Sk.cut l none (some k)) rfl p _ _ _ (g1.fr.trans t.1) (t.2 σ r1 R1) setW_same (g1.fr.noneB hp) upd_same ((cutR rl1 none (some k)).mv t.1.mv)
          | _ => exact False.elim h
  · unfold eFCut at h
    cases q : fldL c i f r with
    | none => rw [q] at h; cases h
    | some l =>
      rw [q] at h
      simp only at h
      cases q3 : ev r with
      | bad => rw [q3] at h; cases h
      | exc n r1 => rw [q3] at h; cases h
      | ok y r1 =>
        rw [q3] at h
        simp only [Res.bind_ok] at h
        split at h
        · cases h; exact ⟨_, rfl⟩
        · cases h
/-- self.f[k] = v -/
theorem s_fitem {c f : String} {i : Nat} {x fs : Str} {p4 : Pos} (hB : g.B) (hf : fs = Str.ofString f) (K : FldOk g c f) (hN : g.N[i]? = some x) (hv : Vis g.sc x) (hk : SX g b ek) (ha : SE g e ev) (hd : (x == ("__debug__" : Str)) = false := by decide) (hcd : (x == ("__classdict__" : Str)) = false := by decide)
    (hs : ∀ X, g.XP X → swapsWithSole [.Subscript (.Attribute (.Name x p) fs p4) b p2] e pos.line X.env = pure false := by intros; rfl) (hw : ∀ X, g.XP X → swappedStores [.Subscript (.Attribute (.Name x p) fs p4) b p2] e X.env = pure none := by intros; rfl)
    (h1 : ∀ X, g.XP X → (assignEach [.Subscript (.Attribute (.Name x p) fs p4) b p2] X.env).map (·.2) = [assign (.Subscript (.Attribute (.Name x p) fs p4) b p2) X.env] := by intros; rfl)
    (has : ∀ X, g.XP X → ∀ v, assign (.Subscript (.Attribute (.Name x p) fs p4) b p2) X.env v = (do
      let ov ← holding [v] (eval (.Attribute (.Name x p) fs p4) X.env)
      let iv ← holding [v, ov] (eval b X.env)
      standAt p2
      holding [v, ov, iv] (setItem ov iv v)
      release [v, ov, iv] []) := by intros; rfl) : SS g (.Assign [.Subscript (.Attribute (.Name x p) fs p4) b p2] e pos) (sFItem c i f ek ev) := by
  subst hf
  obtain ⟨tk, pk, sk, s1, x1⟩ := hk
  obtain ⟨ta, pa, ma⟩ := ha
  refine ⟨tAsg ta (gSub (tFld g.cn.K (tVar i) (Str.ofString f)) tk rSetL), fun X hx => ?_, fun σ r H W D R h => ?_⟩
  · exact ps_asg (pa X hx) (pg_sub (pe_self hB hx hN hv hd hcd) (pk X hx) set_list (has X hx)) (hs X hx) (hw X hx) (h1 X hx)
  · refine outE (Q := fun v H1 => gSub (tFld g.cn.K (tVar i) (Str.ofString f)) tk rSetL v σ H1 D.nx) ma R h fun y r1 v H1 W1 f1 R1 rr1 h1 => ?_
    cases q : fldL c i f r1 with
    | none => rw [q] at h1; exact False.elim h1
    | some l =>
      rw [q] at h1
      obtain ⟨bb, fs, ad, C, dx, vs, al, xs, e1, e0, es, w, hC, hx, hf, nd, bo, q2, hv, wl, hl, rl⟩ := fldl_at R1 q
      obtain ⟨k1, k2⟩ := K.ok _ hC
      refine ⟨_, es, ad, C, dx, vs, .ref al, rfl, hx, k1, k2, hv, ?_⟩
      show tk σ H1 (fun z H2 => rSetL (.ref al) z v H2 fun H3 => D.nx σ H3)
      simp only at h1
      cases q3 : ek r1 with
      | bad => rw [q3] at h1; exact False.elim h1
      | exc n r2 => exact absurd q3 (x1 r1 n r2)
      | ok z r2 =>
        have := s1 _ _ _ q3
        subst this
        rw [q3] at h1
        simp only [Res.out_ok] at h1
        refine sk σ r2 H1 W1 _ R1 ⟨z, q3, fun u H2 W2 g2 R2 rr2 => ?_⟩
        cases y with
        | ref j => exact False.elim h1
        | d y =>
          cases z with
          | ref j => exact False.elim h1
          | d z =>
            cases z with
            | int j =>
              cases rr2
              simp only at h1
              cases qi : ixK l.length j with
              | none => rw [qi] at h1; exact False.elim h1
              | some n =>
                rw [qi] at h1
                obtain ⟨b', fs', ad', C', dx', vs', al', xs', e1', e0', es', w', hC', hx', hf', nd', bo', q2', hv', wl', hl', rl'⟩ := fldl_at R2 q
                rw [es] at es'; cases es'
                rw [(g2.keep _ _ hx).1] at hx'; cases hx'
                rw [hv] at hv'; cases hv'
                rw [(g2.keep _ _ hl).1] at hl'; cases hl'
                have rn : Rps g.cn.K g.cn.T H2 W2 (xs.set n v) (l.set n y) := rl'.set n (RR.grow (σ := σ) (x := .d y) g2 rr1)
                obtain ⟨f3, R3⟩ := R2.wrFld e0' es w' hC' (g2.keep _ _ hx).1 hf' nd' bo' q2' hv wl' (g2.keep _ _ hl).1 rn
                have eset : setFL i f (l.set n y) r2 = r2.set i (.ins b' c (putFl f (.own (l.set n y)) fs')) := by unfold setFL; rw [e1']
                have h1 : OutOk g.cn g.wx D H1 W1 (.nx (setFL i f (l.set n y) r2)) := h1
                rw [eset] at h1
                exact ⟨al, xs, j, n, rfl, rfl, (g2.keep _ _ hl).1, by rw [rl.len]; exact qi, h1 σ _ _ (g2.fr.trans f3) R3⟩
            | _ => exact False.elim h1
end
end SkS

namespace SkS
open PySem PySem.Spec PyProof.Rows L2 Sk
section
variable {g : Cxt} {a b e d : Expr} {es : List Expr} {ea eb ek ev : EV} {av : AV} {pos p p2 p3 p4 apos : Pos}
/-- a method of the new instance in the last slot -/
theorem new_meth {c : Cn} {wx : WX} {H : Hp} {W : Own} {σ : L2.St} {r : Slots} {x : Addr} {k : String} {fs : List (String × Sk.F)} {f : FSem} {u : V} {y : Sk.D} {E : XK} {Q : VK} {H0 : Hp} {W0 : Own} (hE : wx = fun cls d _ H => E cls d H) (R : Rel c H W (σ ++ [some (.ref x)]) (r ++ [.ins false k fs])) (hf : c.far r.length) (ru : Rp c.K c.T H W u y) (f0 : Fr H0 W0 H W)
    (h : ResOk c wx σ H0 W0 (PoE c σ Q H0 W0) (match f [.ins true k fs, .d y] with
      | .ok v [.ins true c' _, _] => if k = c' then Res.ok (Sk.R.d v.toD) r else .bad
      | .exc e => .exc e r
      | _ => .bad)) : lowSp c.K c.T f [.ref x, u] H Q E := by
  have hl : σ.length = r.length := by have := R.len; rw [List.length_append, List.length_append] at this; simpa using this
  have rr : Paired (RR c H W (σ ++ [some (.ref x)])) [.ref x, u] [Sk.R.ref r.length, .d y] := .cons (by
    show (σ ++ [some (V.ref x)])[r.length]? = some (some (V.ref x))
    rw [← hl, List.getElem?_append_right (Nat.le_refl _), Nat.sub_self]; rfl) (.cons ru .nil)
  have none_ok : ∀ i, ((none : Option Tok) = some (.s i) → i < r.length) ∧ ∀ f, (none : Option Tok) = some (.f i f) → i < r.length := fun i => ⟨(fun z => by cases z), (fun f z => by cases z)⟩
  have key : ResOk c wx (σ ++ [some (.ref x)]) H W (fun v r' => ∀ u H' W', Fr H W H' W' → Rel c H' W' (σ ++ [some (.ref x)]) r' → RetV c H H' W' u v → Q u H') (callV f [Sk.R.ref r.length, .d y] (r ++ [Sk.A.ins false k fs])) := by
    have hlend : lends [Sk.R.ref r.length, .d y] (r ++ [Sk.A.ins false k fs]) = some [.ins true k fs, .d y] := by
      unfold lends lend
      simp only [at_last, Option.bind_some]
      rfl
    unfold callV
    rw [if_pos (by simp), hlend]
    simp only
    cases q : f [.ins true k fs, .d y] with
    | bad => rw [q] at h; exact h
    | exc n =>
      rw [q] at h
      intro C H' W' hC f1 R1
      have e1 : lost [Sk.R.ref r.length, .d y] (r ++ [Sk.A.ins false k fs]) = r ++ [.un] := by
        show (r ++ [Sk.A.ins false k fs]).set r.length .un = _
        exact set_last
      rw [e1] at R1
      have := h C H' _ hC (f0.trans f1).re (R1.cut hf (t := none) (tf := fun _ => none) none_ok fun _ => none_ok)
      rw [hE] at this ⊢
      exact this
    | ok v outs =>
      rw [q] at h
      rw [callK_ok]
      split at h
      · rename_i v' c' fs' o' hq
        cases hq
        split at h
        · rename_i hk
          subst hk
          have e1 : backs [Sk.R.ref r.length, .d y] [Sk.A.ins true k fs', o'] (r ++ [Sk.A.ins false k fs]) = some (r ++ [.ins false k fs']) := by
            show (back1 (at_ (r ++ [Sk.A.ins false k fs]) r.length) (.ins true k fs')).bind (fun b => backs [.d y] [o'] ((r ++ [Sk.A.ins false k fs]).set r.length b)) = _
            rw [at_last]
            unfold back1
            simp only [if_true, Option.bind_some]
            rw [set_last]; rfl
          rw [e1]
          intro u' H' W' f1 R1 ret
          refine retD f1 (fun a q => (R.old a q).1) R1 ret fun u2 H2 W2 f2 R2 rp => ?_
          exact h u2 H2 _ (f0.trans f2).re (R2.cut hf (t := none) (tf := fun _ => none) none_ok fun _ => none_ok) (Rp.mv reW_mv rp)
        · exact False.elim h
      · rename_i hq; cases hq
      · exact False.elim h
  have z := call_low R rr key
  rw [hE] at z
  exact z
theorem se_newM {cl m : String} {ms y x : Str} {j : Nat} {init f : FSem} (hB : g.B) (hR : g.R) (hF : g.Flat) (N : NCal g cl y init) (hm : ms = Str.ofString m) (C : MCal g cl ms f) (hg : g.sc.names.lookup y = some .globalImplicit) (ha : SA g (e :: es) av) (hN : g.N[j]? = some x) (hv : Vis g.sc x)
    (hdb : (y == ("__debug__" : Str)) = false := by decide) (he : ∀ X, g.XP X → starEach (e :: es) X.env = (false, eval e X.env) :: starEach es X.env := by intros; rfl) (hpl : ∀ X, g.XP X → (backTo p3 (starEach es X.env)).any (·.1) = false := by intros; rfl)
    (hd : (x == ("__debug__" : Str)) = false := by decide) (hcd : (x == ("__classdict__" : Str)) = false := by decide)
    (hst : ∀ X, g.XP X → starEach [.Name x p4] X.env = (false, eval (.Name x p4) X.env) :: starEach [] X.env := by intros; rfl) (hpl2 : ∀ X, g.XP X → (backTo pos (starEach [] X.env)).any (·.1) = false := by intros; rfl)
    (ht : ∀ X, g.XP X → ∃ pl, eval (.Call (.Attribute (.Call (.Name y p2) (e :: es) [] p3) ms apos) [.Name x p4] [] pos) X.env = (do
      let ov ← eval (.Call (.Name y p2) (e :: es) [] p3) X.env
      standAt apos.atName
      let (f, first) ← holding [ov] (getMethod ov ms pl)
      callWith pos f first (backTo pos (starEach [.Name x p4] X.env)) (backToKw pos (keywordEach [] X.env))) := by intros; exact ⟨_, rfl⟩) :
    SE g (.Call (.Attribute (.Call (.Name y p2) (e :: es) [] p3) ms apos) [.Name x p4] [] pos) (eNewM cl init m f av j) := by
  subst hm
  obtain ⟨E, hE⟩ := hF
  obtain ⟨Ca, k, ad, fd, ps, hC, hk, F, mk, hm, bi⟩ := N.ex
  obtain ⟨k', ad', fd', ps', hk', F', cl', me', bi'⟩ := C.ex Ca hC
  obtain ⟨ta, pa, sa⟩ := ha
  refine ⟨tMeth Ca (Str.ofString m) (lowSp g.cn.K g.cn.T f) [] E (tMake Ca (lowSp g.cn.K g.cn.T init) [] E ta) (tCons (tVar j) tNil), fun X hx => ?_, fun σ r H W Q R h => ?_⟩
  · have B := hB X hx
    have F2 : FnOk X.prog X.w X.K X.mg X.base (L2.CX X.prog X.w) k' ad' fd' ps' (lowSp g.cn.K g.cn.T f) := by rw [B.P, B.w, B.K, B.mg, B.base]; exact F'
    have tk := hR.tk X hx
    rw [hE] at tk
    obtain ⟨pl, ht⟩ := ht X hx
    exact pe_meth (pl := pl) (pe_new (cl := cl) hB hR hE hx hk F mk hm bi hg (pa X hx) hdb (he X hx) (hpl X hx)) (by rw [B.K]; exact cl') (by rw [B.K]; exact me') F2 ((hR X hx).room.mono hk') (by rw [B.K]; exact bi') .nil (passes_call tk fun _ _ _ _ h => h)
      (pa_cons (pe_var (by rw [B.N]; exact hN) (by rw [B.sc]; exact hv) hd hcd) pa_nil (hst X hx)) (hst X hx) (hpl2 X hx) ht
  · show ta σ H (fun vs H1 => ∀ x dx, H1 x = none → H1 dx = none → dx ≠ x → lowSp g.cn.K g.cn.T init (.ref x :: (vs ++ [])) (upd (upd H1 dx (.own x)) x (.ins Ca dx [])) (fun v H2 => v = .non ∧ ∃ a dx fs, V.ref x = .ref a ∧ H2 a = some (.ins Ca dx fs) ∧ fs.lookup (Str.ofString m) = none ∧ ∃ w, σ[j]? = some (some w) ∧ lowSp g.cn.K g.cn.T f [.ref x, w] H2 Q E) E)
    refine bindA (P := PoE g.cn σ Q) shE sa R h fun xs r1 vs H1 W1 f1 R1 rr1 h1 => ?_
    intro x dx hx hd ne
    rw [List.append_nil]
    refine new_low (P := fun v H2 => ∃ a dx fs, V.ref x = .ref a ∧ H2 a = some (.ins Ca dx fs) ∧ fs.lookup (Str.ofString m) = none ∧ ∃ w, σ[j]? = some (some w) ∧ lowSp g.cn.K g.cn.T f [.ref x, w] H2 Q E) (Q := fun _ _ _ _ => True) hE R1 rr1 hC hx hd ne ((bindR h1).imp fun fs r' hv H' W' f2 R2 hl => ?_)
    obtain ⟨a, C', dx', ws, e', w', hC', hx', hfl, nd, bo⟩ := last_slot R2
    cases e'
    rw [hC] at hC'; cases hC'
    cases q1 : lookF fs m with
    | some z => rw [q1] at hv; exact False.elim hv
    | none =>
      rw [q1] at hv
      cases q2 : at_ r' j with
      | d y =>
        rw [q2] at hv
        have hj : r'[j]? = some (.d y) := at_some q2 fun z => by cases z
        have hjl : j < r'.length := (List.getElem?_eq_some_iff.mp hj).1
        obtain ⟨u, es, ru⟩ := R2.slot j (.d y) (by rw [List.getElem?_append_left hjl]; exact hj)
        have hsl : σ.length = r'.length := by rw [hl, R1.len]
        rw [List.getElem?_append_left (by rw [hsl]; exact hjl)] at es
        exact ⟨x, dx', ws, rfl, hx', fld_no hfl q1, u, es, new_meth hE R2 (by rw [hl]; exact R1.far) ru f2 hv⟩
      | un => rw [q2] at hv; exact False.elim hv
      | own b l => rw [q2] at hv; exact False.elim hv
      | ins b n fs => rw [q2] at hv; exact False.elim hv
      | err n => rw [q2] at hv; exact False.elim hv
end
end SkS

namespace SkS
open PySem PySem.Spec PyProof.Rows L2 Sk
/-! ### dicts of texts -/
abbrev dkOf (kvs : List (Txt × Txt)) : List (Key × V) := kvs.map fun p => (.inr ⟨p.1.toArray⟩, .str ⟨p.2.toArray⟩)
abbrev ddOf (kvs : List (Txt × Txt)) : List (Txt × Sk.D) := kvs.map fun p => (p.1, .str p.2)
theorem Rv.dic {c : Cn} {H : Hp} {W : Own} {v : V} {ds : List (Txt × Sk.D)} (h : Rv c H W v (.dic ds)) : ∃ a kvs, v = .ref a ∧ H a = some (.dK (dkOf kvs)) ∧ ds = ddOf kvs ∧ ∀ p ∈ kvs, p.2.length ≤ sizeLine := by
  cases h with
  | of h => cases h with
    | dic h w z => exact ⟨_, _, rfl, h, rfl, z⟩
theorem key_inj {s t : Txt} : ((Sum.inr ⟨s.toArray⟩ : Key) = .inr ⟨t.toArray⟩) ↔ s = t := by
  constructor
  · intro h
    injection h with h
    injection h with h
    exact List.toArray_inj h
  · rintro rfl; rfl
theorem val_dic (s : Txt) : ∀ kvs : List (Txt × Txt), valV (dkOf kvs) (.inr ⟨s.toArray⟩) = (kvs.lookup s).map fun t => V.str ⟨t.toArray⟩
  | [] => rfl
  | (k, v) :: r => by
    have ih := val_dic s r
    rw [List.lookup_cons]
    by_cases q : k = s
    · subst q
      rw [show dkOf ((k, v) :: r) = (.inr ⟨k.toArray⟩, .str ⟨v.toArray⟩) :: dkOf r from rfl, valV_pos rfl]
      simp
    · rw [show dkOf ((k, v) :: r) = (.inr ⟨k.toArray⟩, .str ⟨v.toArray⟩) :: dkOf r from rfl, valV_neg (fun z => q (key_inj.mp z)), ih]
      have : (s == k) = false := beq_eq_false_iff_ne.mpr fun z => q z.symm
      rw [this]
theorem look_dd (s : Txt) : ∀ kvs : List (Txt × Txt), (ddOf kvs).lookup s = (kvs.lookup s).map Sk.D.str
  | [] => rfl
  | (k, v) :: r => by
    have ih := look_dd s r
    rw [show ddOf ((k, v) :: r) = (k, .str v) :: ddOf r from rfl, List.lookup_cons, List.lookup_cons]
    by_cases q : (s == k) = true
    · rw [q]; rfl
    · rw [Bool.eq_false_iff.mpr q]; exact ih
theorem look_mem {kvs : List (Txt × Txt)} {s t : Txt} (h : kvs.lookup s = some t) : (s, t) ∈ kvs := by
  induction kvs with
  | nil => cases h
  | cons p r ih =>
    obtain ⟨k, v⟩ := p
    rw [List.lookup_cons] at h
    by_cases q : (s == k) = true
    · rw [q] at h
      cases h
      rw [eq_of_beq q]
      exact List.mem_cons_self
    · rw [Bool.eq_false_iff.mpr q] at h
      exact List.mem_cons_of_mem _ (ih h)
theorem merge_nodup : ∀ (more acc : List (Key × V)), ((acc ++ more).map (·.1)).Nodup → mergeK acc more = acc ++ more
  | [], acc, _ => by simp [mergeK]
  | p :: r, acc, h => by
    have hp : (acc.any fun kv => decide (kv.1 = p.1)) = false := by
      rw [Bool.eq_false_iff]
      intro q
      obtain ⟨x, hx, he⟩ := List.any_eq_true.mp q
      rw [List.map_append, List.nodup_append] at h
      exact h.2.2 x.1 (List.mem_map.mpr ⟨x, hx, rfl⟩) p.1 (by rw [List.map_cons]; exact List.mem_cons_self) (of_decide_eq_true he)
    have e : putK acc p.1 p.2 = acc ++ [p] := by
      unfold putK
      rw [hp, if_neg Bool.false_ne_true]
    show mergeK (putK acc p.1 p.2) r = _
    rw [e, merge_nodup r (acc ++ [p]) (by rw [List.append_assoc]; exact h), List.append_assoc]
    rfl
section
variable {g : Cxt} {a b e d : Expr} {es : List Expr} {ea eb ek ev : EV} {av : AV} {pos p p2 p3 p4 apos : Pos}
/-- the pairs of a written dict -/
def SD (g : Cxt) (pos : Pos) (keys : List (Option Expr)) (values : List Expr) (kvs : List (Txt × Txt)) : Prop := ∃ trs, (∀ X, g.XP X → PPs X pos keys values trs) ∧ ∀ (σ : L2.St) (H : Hp) (Q : List (V × V) → Hp → Prop), Q (kvs.map fun p => (V.str ⟨p.1.toArray⟩, V.str ⟨p.2.toArray⟩)) H → tPairs trs σ H Q
theorem sd_nil : SD g pos [] [] [] := ⟨[], fun X _ => pps_nil, fun σ H Q h => h⟩
theorem sd_cons {k v : Str} {kt vt : Txt} {j j2 : Nat} {keys : List (Option Expr)} {values : List Expr} {kvs : List (Txt × Txt)} (hk : k = ⟨kt.toArray⟩) (hv : v = ⟨vt.toArray⟩) (h : SD g pos keys values kvs) : SD g pos (some (.Constant (.str k) j p) :: keys) (.Constant (.str v) j2 p2 :: values) ((kt, vt) :: kvs) := by
  subst hk hv
  obtain ⟨trs, h1, h2⟩ := h
  exact ⟨_, fun X x => pps_cons pe_str pe_str (h1 X x), fun σ H Q h => h2 σ H _ h⟩
theorem se_dic {keys : List (Option Expr)} {values : List Expr} {kvs : List (Txt × Txt)} {ds : List (Txt × Sk.D)} (h : SD g pos keys values kvs) (he : ds = ddOf kvs := by rfl) (nd : (kvs.map (·.1)).Nodup := by decide) (hz : ∀ p ∈ kvs, p.2.length ≤ 16777216 := by decide) (hlen : kvs.length ≤ 15 := by decide)
    (hall : keys.all (·.isSome) = true := by rfl) (hl : keys.length = values.length := by rfl) (h0 : keys ≠ [] := by nofun) (h15 : keys.length ≤ 15 := by decide) : SE g (.Dict keys values pos) (eC (.dic ds)) := by
  subst he
  obtain ⟨trs, h1, h2⟩ := h
  refine ⟨tDisp trs, fun X x => pe_disp (h1 X x) hall hl h0 h15, fun σ r H W Q R h => ?_⟩
  intro p hp
  refine h2 σ _ _ ⟨upd_same, dkOf kvs, ?_, by rw [List.length_map]; exact hlen, ?_⟩
  · rw [List.map_map]; rfl
  · rw [merge_nodup (dkOf kvs) [] (by
      rw [List.nil_append, List.map_map]
      have : ((fun x : Key × V => x.1) ∘ fun p : Txt × Txt => ((Sum.inr ⟨p.1.toArray⟩ : Key), V.str ⟨p.2.toArray⟩)) = (fun t : Txt => (Sum.inr ⟨t.toArray⟩ : Key)) ∘ (·.1) := rfl
      rw [this, ← List.map_map]
      exact (List.pairwise_map.mpr (nd.imp fun hne z => hne (key_inj.mp z))))]
    rw [List.nil_append]
    have hu : upd (upd H p (.dK [])) p (.dK (dkOf kvs)) = upd H p (.dK (dkOf kvs)) := by
      funext z
      unfold upd
      by_cases q : z = p
      · rw [if_pos q, if_pos q]
      · rw [if_neg q, if_neg q, if_neg q]
    rw [hu]
    have t := Tr.new (c := g.cn) (W := W) (o := .dK (dkOf kvs)) (t := none) hp
    exact h _ _ _ t.1 (t.2 σ r R) (.dic upd_same setW_same fun p hp => by rw [sizeLine_eq]; exact hz p hp)
theorem dget_rv {H : Hp} {W : Own} {x y : V} {ds : List (Txt × Sk.D)} {s : Txt} (rx : Rv g.cn H W x (.dic ds)) (ry : Rv g.cn H W y (.str s)) : ∃ a o, x = .ref a ∧ DGet H a y o ∧ o.isSome = (ds.lookup s).isSome ∧ ∀ z, ds.lookup s = some z → ∃ v, o = some v ∧ Rp g.cn.K g.cn.T H W v z := by
  obtain ⟨a, kvs, e1, h1, e2, hz⟩ := rx.dic
  subst e2
  obtain ⟨e3, _⟩ := ry.str
  subst e3
  have hg : DGet H a (kV (.inr ⟨s.toArray⟩)) (valV (dkOf kvs) (.inr ⟨s.toArray⟩)) := DGet.k h1
  rw [val_dic] at hg
  refine ⟨a, _, e1, hg, by rw [look_dd, Option.isSome_map, Option.isSome_map], fun z hz' => ?_⟩
  rw [look_dd] at hz'
  cases q : kvs.lookup s with
  | none => rw [q] at hz'; cases hz'
  | some t =>
    rw [q] at hz'
    cases hz'
    exact ⟨_, rfl, .str t (hz _ (look_mem q))⟩
theorem se_itemD (hR : g.R) (ha : SE g a ea) (hb : SE g b eb) (hs : NoSl b) : SE g (.Subscript a b pos) (eOp opItemD ea eb) := by
  obtain ⟨ta, pa, sa⟩ := ha
  obtain ⟨tb, pb, sb⟩ := hb
  refine ⟨tDGet ta tb, fun X x => pe_dget (by have := hR.un X x; omega) (pa X x) (pb X x) hs, ?_⟩
  have : OpS g.cn (fun x y H2 Q => ∃ a v, x = .ref a ∧ DGet H2 a y (some v) ∧ Q v H2) opItemD := by
    intro H W x y u v z Q rx ry e k
    cases u with
    | dic ds =>
      cases v with
      | str s =>
        obtain ⟨a, o, e1, h1, _, h2⟩ := dget_rv rx ry
        obtain ⟨w, e2, rw'⟩ := h2 z e
        subst e2
        exact ⟨a, w, e1, h1, k w H W Tr.refl rw'⟩
      | _ => cases e
    | _ => cases e
  exact sem_op this sa sb
theorem sem_inD {ta tb : TE} {neg : Bool} (sa : SemE g.cn g.wx ta ea) (sb : SemE g.cn g.wx tb eb) : SemE g.cn g.wx (fun σ H Q => ta σ H fun y H1 => tb σ H1 fun x H2 => ∃ a o, x = .ref a ∧ DGet H2 a y o ∧ Q (.bl (if neg then !o.isSome else o.isSome)) H2) (eOp (if neg then opNinD else opInD) ea eb) := by
  have : OpS g.cn (fun y x H2 Q => ∃ a o, x = .ref a ∧ DGet H2 a y o ∧ Q (.bl (if neg then !o.isSome else o.isSome)) H2) (if neg then opNinD else opInD) := by
    intro H W y x u v z Q ry rx e k
    cases v with
    | dic ds =>
      cases u with
      | str s =>
        obtain ⟨a, o, e1, h1, h2, _⟩ := dget_rv rx ry
        refine ⟨a, o, e1, h1, ?_⟩
        rw [h2]
        cases neg with
        | false =>
          have e : some (Sk.D.bl (ds.lookup s).isSome) = some z := e
          cases e
          exact k _ H W Tr.refl (.bl _)
        | true =>
          have e : some (Sk.D.bl (!(ds.lookup s).isSome)) = some z := e
          cases e
          exact k _ H W Tr.refl (.bl _)
      | _ => cases neg <;> cases e
    | _ => cases neg <;> cases e
  exact sem_op this sa sb
theorem se_inD (hR : g.R) (ha : SE g a ea) (hb : SE g b eb) (hm : behindInMarks .In b = false) : SE g (.Compare a [.In] [b] pos) (eOp opInD ea eb) := by
  obtain ⟨ta, pa, sa⟩ := ha
  obtain ⟨tb, pb, sb⟩ := hb
  exact ⟨tDIn ta tb, fun X x => pe_cmp (pc_din (by have := hR.un X x; omega) (pa X x) (pb X x)) hm, sem_inD (neg := false) sa sb⟩
theorem st_inD (hR : g.R) (ha : SE g a ea) (hb : SE g b eb) (hm : behindInMarks .In b = false) : STt g (.Compare a [.In] [b] pos) (eOp opInD ea eb) := by
  obtain ⟨ta, pa, sa⟩ := ha
  obtain ⟨tb, pb, sb⟩ := hb
  exact ⟨tB (tDIn ta tb), fun X x => pt_cmp (pc_din (by have := hR.un X x; omega) (pa X x) (pb X x)) hm, sem_test (sem_inD (neg := false) sa sb)⟩
/-- a dict's entries, as written -/
def entB : List DictEntry → List (Txt × Txt) → Bool
  | [], [] => true
  | e :: es, p :: r => (match e.key, e.val with
    | .str k _, .str v _ => decide (k = ⟨p.1.toArray⟩) && decide (v = ⟨p.2.toArray⟩)
    | _, _ => false) && entB es r
  | _, _ => false
/-- a module's constant dict of texts -/
structure DicC (g : Cxt) (x : Str) (kvs : List (Txt × Txt)) : Prop where
  ex : ∃ a es n, g.mg x = some (.ref a) ∧ KDict g.cn.K g.w a es n ∧ entB es.toList kvs = true ∧ ∀ s : Txt, ∃ r, PySem.W.nsIn g.cn.K a ⟨s.toArray⟩ = some r ∧ r.isSome = (kvs.lookup s).isSome ∧ ∀ t, kvs.lookup s = some t → ∃ u, r = some u ∧ RelV (.str ⟨t.toArray⟩) u
theorem se_inG {x : Str} {kvs : List (Txt × Txt)} {ds : List (Txt × Sk.D)} (hB : g.B) (C : DicC g x kvs) (hg : g.sc.names.lookup x = some .globalImplicit) (ha : SE g a ea) (hm : behindInMarks .In (.Name x p) = false) (he : ds = ddOf kvs := by rfl) (hd : (x == ("__debug__" : Str)) = false := by decide) : SE g (.Compare a [.In] [.Name x p] pos) (eOp opInD ea (eC (.dic ds))) ∧ STt g (.Compare a [.In] [.Name x p] pos) (eOp opInD ea (eC (.dic ds))) := by
  subst he
  obtain ⟨ad, es, n, hm0, D, _, hv⟩ := C.ex
  obtain ⟨ta, pa, sa⟩ := ha
  have hop : ∀ X, g.XP X → OpR X (compareOp .In) (fun x y H Q => ∃ (z : Str) (r : Option Value), x = .str z ∧ y = .ref ad ∧ PySem.W.nsIn g.cn.K ad z = some r ∧ Q (.bl r.isSome) H) := fun X hx => by
    have D2 : KDict X.K X.w ad es n := by rw [(hB X hx).K, (hB X hx).w]; exact D
    rw [← (hB X hx).K]
    exact op_in_kd D2
  have sem : SemE g.cn g.wx (tOp (fun x y H Q => ∃ (z : Str) (r : Option Value), x = .str z ∧ y = .ref ad ∧ PySem.W.nsIn g.cn.K ad z = some r ∧ Q (.bl r.isSome) H) ta (tC (.ref ad))) (eOp opInD ea (eC (.dic (ddOf kvs)))) := by
    intro σ r H W Q R h
    show ta σ H (fun x H1 => ∃ (z : Str) (r : Option Value), x = .str z ∧ V.ref ad = .ref ad ∧ PySem.W.nsIn g.cn.K ad z = some r ∧ Q (.bl r.isSome) H1)
    refine bindE (P := PoE g.cn σ Q) shE sa R h fun x r1 v H1 W1 f1 R1 rr1 h1 => ?_
    simp only [eC, Res.bind_ok] at h1
    cases ex : x.val r1 with
    | none => rw [ex] at h1; exact False.elim h1
    | some u =>
      rw [ex] at h1
      simp only [Sk.R.val, Option.bind_some] at h1
      have rx := rr1.rv R1 ex
      cases u with
      | str s =>
        obtain ⟨e1, _⟩ := rx.str
        obtain ⟨r0, q1, q2, _⟩ := hv s
        refine ⟨_, r0, e1, rfl, q1, ?_⟩
        rw [q2, ← Option.isSome_map (f := Sk.D.str), ← look_dd]
        exact h1 _ H1 W1 Fr.refl R1 (.bl _)
      | _ => exact False.elim h1
  have pe2 : ∀ X, g.XP X → PE X (.Name x p) (tC (.ref ad)) := fun X hx => pe_glob (hB.gl hg X hx) (by rw [(hB X hx).mg]; exact hm0) rfl hd
  exact ⟨⟨_, fun X hx => pe_cmpR (hop X hx) (pa X hx) (pe2 X hx) hm, sem⟩, ⟨_, fun X hx => pt_cmpR (hop X hx) (pa X hx) (pe2 X hx) hm, sem_test sem⟩⟩
theorem se_itemG {x : Str} {kvs : List (Txt × Txt)} {ds : List (Txt × Sk.D)} (hB : g.B) (C : DicC g x kvs) (hg : g.sc.names.lookup x = some .globalImplicit) (hb : SE g b eb) (hs : PlainIx b) (he : ds = ddOf kvs := by rfl) (hz : ∀ p ∈ kvs, p.2.length ≤ 16777216 := by decide) (hd : (x == ("__debug__" : Str)) = false := by decide) : SE g (.Subscript (.Name x p) b pos) (eOp opItemD (eC (.dic ds)) eb) := by
  subst he
  obtain ⟨ad, es, n, hm0, D, _, hv⟩ := C.ex
  obtain ⟨tb, pb, sb⟩ := hb
  have pe2 : ∀ X, g.XP X → PE X (.Name x p) (tC (.ref ad)) := fun X hx => pe_glob (hB.gl hg X hx) (by rw [(hB X hx).mg]; exact hm0) rfl hd
  refine ⟨tOp (rIxD g.cn.K g.w) (tC (.ref ad)) tb, fun X hx => pe_ix (by rw [← (hB X hx).K, ← (hB X hx).w]; exact ix_kdict) (pe2 X hx) (pb X hx) hs, fun σ r H W Q R h => ?_⟩
  show tb σ H (fun y H1 => ∃ p z v, V.ref ad = .ref p ∧ y = .str z ∧ KDct g.cn.K g.w p z v ∧ Q v H1)
  have h : ResOk g.cn g.wx σ H W (PoE g.cn σ Q H W) ((eb r).bind fun y r2 => ofOpt ((y.val r2).bind (opItemD (.dic (ddOf kvs)))) r2) := h
  refine bindE (P := PoE g.cn σ Q) shE sb R h fun y r1 v H1 W1 f1 R1 rr1 h1 => ?_
  cases ex : y.val r1 with
  | none => rw [ex] at h1; exact False.elim h1
  | some u =>
    rw [ex] at h1
    simp only [Option.bind_some] at h1
    have rx := rr1.rv R1 ex
    cases u with
    | str s =>
      obtain ⟨e1, _⟩ := rx.str
      obtain ⟨r0, q1, _, q2⟩ := hv s
      have h1 : ResOk g.cn g.wx σ H1 W1 (PoE g.cn σ Q H1 W1) (ofOpt ((ddOf kvs).lookup s) r1) := h1
      rw [look_dd] at h1
      cases q : kvs.lookup s with
      | none => rw [q] at h1; exact False.elim h1
      | some t =>
        rw [q] at h1
        obtain ⟨u, q3, q4⟩ := q2 t q
        subst q3
        exact ⟨ad, _, _, rfl, e1, ⟨es, n, u, D.at_, D.lit, q1, q4⟩, h1 _ H1 W1 Fr.refl R1 (.str t (by rw [sizeLine_eq]; exact hz _ (look_mem q)))⟩
    | _ => exact False.elim h1
end
end SkS

namespace SkS
open PySem PySem.Spec PyProof.Rows L2 Sk RT
section
variable {prog : Program} {w : World} {A : Around} {E : Value → Shared → Prop} {s : Shared}
theorem ext_rev {R : Result → Shared → Prop} {it l : Addr} {items : Array Value} (hh : A.handled = none) (hit : s.heap.IsRevIter it l ((items.size : Int) - 1)) (hl : s.heap.IsList l items) (hne : l ≠ it) (hn : items.size ≤ sizeLine) (S : Addr) (res : Value) (c₀ : Nat) (hS : s.heap.get? S = some { cls := .type "list", data := .seq #[] c₀ }) (hSi : S ≠ it) (hSl : S ≠ l)
    (hR : ∀ h' tk acc' c', (∀ b o, b ≠ S → b ≠ it → s.heap.get? b = some o → h'.get? b = some o) → h'.get? S = some { cls := .type "list", dict := none, data := .seq acc' c', slots := #[] } →
      ItemsOf (fun i v => items[items.size - 1 - i]? = some v) acc' items.size → R (.ok (.ret res)) { s with heap := h', toks := tk }) :
    wpAny (model prog w) A.in1 (Builtin.List.listExtendWith (.ref S) (.ref it) res)
      (fun fin s' => match fin with | .done f => R (.ok f) s' | .again c' => c'.quiet = true ∧ codeAny (model prog w) A c' R s') (fun e s' => R (.error e) s') s := by
  have W := (Walks.listRev (prog := prog) (w := w) (A := A.in1) hh it l hne items).toS
  have hSf : S ∉ [it, l] := by simp only [List.mem_cons, List.not_mem_nil, or_false, not_or]; exact ⟨hSi, hSl⟩
  have hT : s.TypeIs (.ref it) "list_reverseiterator" := hit.typeIs
  have h1 : Builtin.List.listSameRef (.ref S) (.ref it) = false := by simp [Builtin.List.listSameRef, hSi]
  unfold Builtin.List.listExtendWith
  refine wpAny_bind (wpAny_typeOf hT ?_)
  rw [if_neg (by rw [h1]; decide)]
  refine wpAny_bind (wpAny_pyIter_revIter hit ?_)
  refine wpAny_bind (wpAny_holding ?_)
  unfold Builtin.List.listLengthHint
  refine wpAny_bind (wpAny_specialOf hT nolen_lri ?_)
  show wpAny _ A.in1 (specialOf (Value.ref it) (Str.ofString "__length_hint__") >>= _) _ _ _
  refine wpAny_bind (wpAny_specialOf hT hint_lri ?_)
  generalize hid : ("list_reverseiterator.__length_hint__" : String) = id0
  wp_delta
  rw [show splitId id0 = some ("list_reverseiterator", "__length_hint__") from by subst hid; decide +kernel]
  subst hid
  refine wpAny_bind (wpAny_isInstance (b := true) hT (by rw [isSubtype_type]; kernel_rfl) ?_)
  refine wpAny_pure ?_
  rw [if_neg (by decide)]
  have e0 : ((items.size : Nat) : Int) - 1 - ((0 : Nat) : Int) = (items.size : Int) - 1 := by omega
  refine wpAny_pure ⟨plainId_quiet F.plain_extend_loop _, codeAny_extend_loopS W hn S hSf res items.size 0 _ _ _ rfl (Nat.zero_le _) ⟨Nat.zero_le _, by rw [e0]; exact hit, hl⟩ hS (ItemsOf.nil _) fun s' acc' c' hm hS' hacc => ?_⟩
  rw [Moved.eq_with hm]
  refine hR s'.heap s'.toks acc' c' (fun b o hb hb2 e => hm.heap b o (fun hmem => ?_) e) hS' hacc
  rcases List.mem_cons.mp hmem with e' | hmem
  · exact hb e'
  · exact hb2 (List.mem_singleton.mp hmem)
theorem init_rev {R : Result → Shared → Prop} {it l : Addr} {items : Array Value} (hh : A.handled = none) (hit : s.heap.IsRevIter it l ((items.size : Int) - 1)) (hl : s.heap.IsList l items) (hne : l ≠ it) (hn : items.size ≤ sizeLine) (S : Addr) (hS : s.heap.get? S = some { cls := .type "list", data := .seq #[] }) (hSi : S ≠ it) (hSl : S ≠ l)
    (hR : ∀ h' tk acc' c', (∀ b o, b ≠ S → b ≠ it → s.heap.get? b = some o → h'.get? b = some o) → h'.get? S = some { cls := .type "list", dict := none, data := .seq acc' c', slots := #[] } →
      ItemsOf (fun i v => items[items.size - 1 - i]? = some v) acc' items.size → R (.ok (.ret .none)) { s with heap := h', toks := tk }) :
    wpAny (model prog w) A.in1 (Builtin.«list.__init__» ⟨[.ref S, .ref it], []⟩)
      (fun fin s' => match fin with | .done f => R (.ok f) s' | .again c' => c'.quiet = true ∧ codeAny (model prog w) A c' R s') (fun e s' => R (.error e) s') s := by
  show wpAny _ _ (do let old ← Builtin.List.listItems (.ref S); Builtin.List.listUpdate (.ref S) (fun _ => #[]); letGo old.toList.reverse; Builtin.List.listExtendWith (.ref S) (.ref it) .none) _ _ s
  refine wpAny_bind ?_
  unfold Builtin.List.listItems
  refine wpAny_bind (wpAny_seqItems hS rfl (wpAny_pure ?_))
  show wpAny _ _ (updateSeq S (fun _ => #[]) >>= fun _ => letGo (#[] : Array Value).toList.reverse >>= fun _ => Builtin.List.listExtendWith (.ref S) (.ref it) .none) _ _ s
  refine wpAny_bind (wpAny_updateSeq hS rfl ?_)
  have hS₂ := Heap.get?_update_self (Obj.mapSeq (fun _ => (#[] : Array Value))) hS rfl
  have oth : ∀ b o, b ≠ S → s.heap.get? b = some o → (s.heap.update S (Obj.mapSeq (fun _ => (#[] : Array Value)))).get? b = some o :=
    fun b o hb e => (Heap.get?_update_other _ _ (Ne.symm hb)).trans e
  refine wpAny_bind (wpAny_letGo ?_)
  obtain ⟨ol, hol, hlc, hln, hld⟩ := id hl
  refine ext_rev hh (hit.at fun o e => oth it o (Ne.symm hSi) e) ⟨ol, oth l ol (Ne.symm hSl) hol, hlc, hln, hld⟩ hne hn S .none _ hS₂ hSi hSl fun h' tk acc' c' hk hS' hacc => ?_
  exact hR h' tk acc' c' (fun b o hb hb2 e => hk b o hb hb2 (oth b o hb e)) hS' hacc
theorem call_list_rev {Q : Value → Shared → Prop} {it l : Addr} {items : Array Value} (hh : A.handled = none) (hit : s.heap.IsRevIter it l ((items.size : Int) - 1)) (hl : s.heap.IsList l items) (hne : l ≠ it) (hn : items.size ≤ sizeLine)
    (hQ : ∀ h' tk acc' c', (∀ b o, b ≠ it → s.heap.get? b = some o → h'.get? b = some o) →
      h'.get? s.heap.objs.size = some { cls := .type "list", dict := none, data := .seq acc' c', slots := #[] } → ItemsOf (fun i v => items[items.size - 1 - i]? = some v) acc' items.size → Q (.ref s.heap.objs.size) { s with heap := h', toks := tk }) :
    wpAny (model prog w) A (call (.type "list") [.ref it]) Q E s := by
  refine callType_codes (Q₁ := fun obj s₁ => obj = .ref s.heap.objs.size ∧ s₁ = { s with heap := s.heap.push { cls := .type "list", data := .seq #[] } }) F.called_list (F.typeCall_list_1 _) F.entry_list_init
    (code_list_new _ ⟨rfl, rfl⟩) fun obj s₁ h₁ => ?_
  obtain ⟨rfl, rfl⟩ := h₁
  have hS : (s.heap.push { cls := .type "list", data := .seq #[] }).get? s.heap.objs.size = some { cls := .type "list", data := .seq #[] } := Heap.get?_push_size _ rfl
  obtain ⟨oi, hoi, _⟩ := id hit
  obtain ⟨ol, hol, _⟩ := id hl
  refine ⟨⟨_, hS, rfl⟩, F.args_list_init_2 _ _, init_rev (A := A.in1) hh (hit.at fun o e => Heap.get?_push_of_some _ e) (hl.push _) hne hn _ hS (Nat.ne_of_gt (Heap.lt_size hoi)) (Nat.ne_of_gt (Heap.lt_size hol)) fun h' tk acc' c' hk hS' hacc => ?_⟩
  exact ⟨rfl, hQ h' tk acc' c' (fun b o hb e => hk b o (Nat.ne_of_lt (Heap.lt_size e)) hb (Heap.get?_push_of_some _ e)) hS' hacc⟩
end
/-- list(reversed(x)), x a list: a new list -/
def tLstRev (K : PySem.W.Frag) (te : TE) : TE := fun σ H Q => te σ H fun v H1 => ∃ (a : Addr) (xs : List V), v = .ref a ∧ SqL K H1 a xs ∧ ∀ q, H1 q = none → Q (.ref q) (upd H1 q (.lst xs.reverse))
theorem pe_lstRev {X : Cx} {e : Expr} {te : TE} {p p2 pos pos2 : Pos} (hc : X.calm = true) (hg : Gl X "list") (hm : X.mg "list" = none) (hg2 : Gl X "reversed") (hm2 : X.mg "reversed" = none) (hv : bootBuiltins "list" = some (.type "list")) (he : PE X e te)
    (hs : starEach [e] X.env = (false, eval e X.env) :: starEach [] X.env := by rfl)
    (hs2 : starEach [.Call (.Name "reversed" p2) [e] [] pos2] X.env = (false, eval (.Call (.Name "reversed" p2) [e] [] pos2) X.env) :: starEach [] X.env := by rfl) :
    PE X (.Call (.Name "list" p) [.Call (.Name "reversed" p2) [e] [] pos2] [] pos) (tLstRev X.K te) := by
  refine ⟨fun pins s σ H Q I h => ?_⟩
  refine Call_ (ld_blt I hg hm hv (PyProof.Rows.callWith_type1 (args_cons (Call_ (ld_blt I hg2 hm2 PyProof.Rows.boot_reversed (PyProof.Rows.callWith_type1 (args_cons (thn (he.run pins s σ H _ I h) fun u s1 ⟨v, H1, I1, r1, q1⟩ => args_nil ?_) hs) hs rfl))) hs2) hs2 rfl))
  obtain ⟨a, xs, ev, hq, q⟩ := q1
  subst ev
  obtain rfl : u = Value.ref a := r1
  obtain ⟨its, rv, p', hz⟩ := I1.list hq
  refine call_reversed_list p'.isList (args_nil ?_)
  have k0 : ∀ b o, s1.heap.get? b = some o → (s1.heap.push (revObj a ((its.toArray.size : Int) - 1))).get? b = some o := fun b o e => Heap.get?_push_of_some _ e
  have hl := p'.isList
  obtain ⟨ol, hol, _⟩ := id hl
  have hne : a ≠ s1.heap.objs.size := Nat.ne_of_lt (Heap.lt_size hol)
  have hn : its.toArray.size ≤ sizeLine := by rw [List.size_toArray, ← rv.length]; exact hz
  refine call_list_rev (s := { s1 with heap := s1.heap.push (revObj a ((its.toArray.size : Int) - 1)) }) (I1.ok.hd hc) ⟨_, Heap.get?_push_size _ rfl, rfl, rfl⟩ (hl.push _) hne hn fun h' tk acc c' hk hS hi => ?_
  have hsz : (s1.heap.push (revObj a ((its.toArray.size : Int) - 1))).objs.size = s1.heap.objs.size + 1 := by
    show (s1.heap.objs.push _).size = _
    rw [Array.size_push]
  refine ⟨.ref (s1.heap.push (revObj a ((its.toArray.size : Int) - 1))).objs.size, upd H1 (s1.heap.push (revObj a ((its.toArray.size : Int) - 1))).objs.size (.lst xs.reverse), I1.laid (t' := tk) (fun b o e => hk b o (Nat.ne_of_lt (Heap.lt_size e)) (k0 b o e)) (by rw [hsz]; omega) (show ObjOk X.prog X.w _ h' _ (.lst xs.reverse) from ⟨by rw [List.length_reverse]; exact hz, acc.toList, c', vals_rev rv hi, ?_⟩), rfl, q _ (I1.hok.fresh (by rw [hsz]; omega))⟩
  rw [Array.toArray_toList]
  exact hS
theorem sl_lstRev {g : Cxt} {e : Expr} {ev : EV} {p p2 pos pos2 : Pos} (hB : g.B) (hR : g.R) (hg : g.sc.names.lookup ("list" : Str) = some .globalImplicit) (hm : Fre g "list") (hg2 : g.sc.names.lookup ("reversed" : Str) = some .globalImplicit) (hm2 : Fre g "reversed") (ha : SE g e ev)
    (hs : ∀ X, g.XP X → starEach [e] X.env = (false, eval e X.env) :: starEach [] X.env := by intros; rfl)
    (hs2 : ∀ X, g.XP X → starEach [.Call (.Name "reversed" p2) [e] [] pos2] X.env = (false, eval (.Call (.Name "reversed" p2) [e] [] pos2) X.env) :: starEach [] X.env := by intros; rfl) :
    SL g (.Call (.Name "list" p) [.Call (.Name "reversed" p2) [e] [] pos2] [] pos) (eOp1 opRev ev) := by
  obtain ⟨ta, pa, sa⟩ := ha
  refine ⟨tLstRev g.cn.K ta, fun X hx => ?_, ?_, ?_⟩
  · rw [← hB.K X hx]
    exact pe_lstRev (hR.calm X hx) (hB.gl hg X hx) (by rw [(hB X hx).mg]; exact hm) (hB.gl hg2 X hx) (by rw [(hB X hx).mg]; exact hm2) (by decide +kernel) (pa X hx) (hs X hx) (hs2 X hx)
  · refine sem_op1L (tw := fun te => tLstRev g.cn.K te) sa (fun _ _ _ => rfl) fun σ H W x u z Q rx e => ?_
    cases u with
    | lst l =>
      cases e
      obtain ⟨a, xs, e1, h1, r1⟩ := rx.lst
      refine ⟨_, rfl, fun k => ⟨a, xs, e1, SqL.of h1, fun p hp => ?_⟩⟩
      have t := Tr.new (c := g.cn) (W := W) (o := .lst xs.reverse) (t := some .tmp) hp
      exact k p xs.reverse _ _ t setW_same hp upd_same (r1.rev.mv t.1.mv)
    | _ => cases e
  · refine eOp1_lst fun u z e => ?_
    cases u <;> cases e
    exact ⟨_, rfl⟩
end SkS

namespace SkS
open PySem PySem.Spec PyProof.Rows L2 Sk
abbrev tabOf (K : PySem.W.Frag) : Tab := ⟨fun c => some (He.ga K (Str.ofString c)), fun c => some (He.ga K (Str.ofString c))⟩
def txtS (t : Txt) : Str := ⟨t.toArray⟩
/-- a module's constant tuple of texts -/
structure TupC (g : Cxt) (x : Str) (l : List Txt) : Prop where
  ex : ∃ a, g.mg x = some (.ref a) ∧ ∀ H, SqT g.cn.K H a (l.map fun t => V.str (txtS t))
theorem rps_txt {K : PySem.W.Frag} {T : Tab} {H : Hp} {W : Own} : ∀ {l : List Txt}, (∀ t ∈ l, t.length ≤ 16777216) → Rps K T H W (l.map fun t => V.str (txtS t)) (l.map Sk.D.str)
  | [], _ => .nil
  | t :: l, h => .cons (.str t (by rw [sizeLine_eq]; exact h t List.mem_cons_self)) (rps_txt fun t q => h t (List.mem_cons_of_mem _ q))
theorem se_gtup {g : Cxt} {x : Str} {l : List Txt} {ds : List Sk.D} {p : Pos} (hB : g.B) (C : TupC g x l) (hg : g.sc.names.lookup x = some .globalImplicit) (hl : ∀ t ∈ l, t.length ≤ 16777216 := by decide) (he : ds = l.map Sk.D.str := by rfl) (hd : (x == ("__debug__" : Str)) = false := by decide) : SE g (.Name x p) (eC (.tup ds)) := by
  subst he
  obtain ⟨a, hm, hq⟩ := C.ex
  refine ⟨tC (.ref a), fun X hx => pe_glob (hB.gl hg X hx) (by rw [(hB X hx).mg]; exact hm) rfl hd, fun σ r H W Q R h => ?_⟩
  exact h (.ref a) H W Fr.refl R (.tup (hq H) (rps_txt hl))
/-- a module's constant text -/
structure StrC (g : Cxt) (x : Str) (l : Txt) : Prop where
  ex : ∃ t, g.mg x = some (.str (txtS l) t)
theorem se_gstr {g : Cxt} {x : Str} {l : Txt} {p : Pos} (hB : g.B) (C : StrC g x l) (hg : g.sc.names.lookup x = some .globalImplicit) (hl : l.length ≤ 16777216 := by decide) (hd : (x == ("__debug__" : Str)) = false := by decide) : SE g (.Name x p) (eC (.str l)) := by
  obtain ⟨t, hm⟩ := C.ex
  refine ⟨tC (.str (txtS l)), fun X hx => pe_glob (hB.gl hg X hx) (by rw [(hB X hx).mg]; exact hm) ⟨t, rfl⟩ hd, fun σ r H W Q R h => ?_⟩
  exact h (.str (txtS l)) H W Fr.refl R (.str l (by rw [sizeLine_eq]; exact hl))
/-- a module's constant number -/
structure IntC (g : Cxt) (x : Str) (i : Int) : Prop where
  ex : ∃ t, g.mg x = some (.int i t)
theorem se_gint {g : Cxt} {x : Str} {i : Int} {p : Pos} (hB : g.B) (C : IntC g x i) (hg : g.sc.names.lookup x = some .globalImplicit) (hd : (x == ("__debug__" : Str)) = false := by decide) : SE g (.Name x p) (eC (.int i)) := by
  obtain ⟨t, hm⟩ := C.ex
  refine ⟨tC (.int i), fun X hx => pe_glob (hB.gl hg X hx) (by rw [(hB X hx).mg]; exact hm) ⟨t, rfl⟩ hd, fun σ r H W Q R h => ?_⟩
  exact h (.int i) H W Fr.refl R (.int i)
/-! ### a program's table -/
structure DefI where
  d : He.DefD
  c : String
  N : List Str
  ps : List Str
structure Tb where
  D : List DefI
  fre : List Str
  exc : List String
  tup : List (Str × List Txt)
  str : List (Str × Txt)
  fld : List (String × String)
  cat : List (String × List (String × Bool))
  ise : List (String × Bool × List (String × Bool))
  dic : List (Str × List (Txt × Txt))
  int : List (Str × Int)
/-- what a body may call -/
structure Calls (t : Tb) (g : Cxt) (S S' : Nat → FSem) : Prop where
  glo : ∀ (i : Nat) {x : DefI}, t.D[i]? = some x → x.d.at_.2 = none → Cal g x.d.at_.1 (S i)
  met : ∀ (i : Nat) {x : DefI} {m : Str}, t.D[i]? = some x → x.d.at_.2 = some m → MCal g x.c m (S i)
  fre : ∀ (i : Nat) {x : Str}, t.fre[i]? = some x → Fre g x
  exc : ∀ (i : Nat) {n : String}, t.exc[i]? = some n → XCls g n (Str.ofString n)
  tup : ∀ (i : Nat) {x : Str × List Txt}, t.tup[i]? = some x → TupC g x.1 x.2
  str : ∀ (i : Nat) {x : Str × Txt}, t.str[i]? = some x → StrC g x.1 x.2
  fld : ∀ (i : Nat) {x : String × String}, t.fld[i]? = some x → FldOk g x.1 x.2
  cat : ∀ (i : Nat) {x : String × List (String × Bool)}, t.cat[i]? = some x → Catch g (Str.ofString x.1) x.2
  ise : ∀ (i : Nat) {x : String × Bool × List (String × Bool)}, t.ise[i]? = some x → IsE g (Str.ofString x.1) x.2.2
  dic : ∀ (i : Nat) {x : Str × List (Txt × Txt)}, t.dic[i]? = some x → DicC g x.1 x.2
  int : ∀ (i : Nat) {x : Str × Int}, t.int[i]? = some x → IntC g x.1 x.2
  new : ∀ (i : Nat) {x : DefI}, t.D[i]? = some x → x.d.at_.2 = some "__init__" → NCal g x.c x.d.at_.1 (S' i)
/-- what is known behind the top -/
structure KF (t : Tb) (w : World) (K : PySem.W.Frag) (mg : Str → Option Value) (fd : Nat → FuncData) : Prop where
  fn : ∀ (i : Nat) {x : DefI}, t.D[i]? = some x → FunD K x.d.name x.d.qual x.d.params x.d.body x.d.scope [] [] (He.fAd K x.d.at_) (fd i)
  sc : ∀ (i : Nat) {x : DefI}, t.D[i]? = some x → FnScope x.N x.ps x.d.scope
  bi : ∀ (i : Nat) {x : DefI}, t.D[i]? = some x → Binds K (fd i) x.ps []
  glo : ∀ (i : Nat) {x : DefI}, t.D[i]? = some x → x.d.at_.2 = none → mg x.d.at_.1 = some (.ref (He.fAd K x.d.at_))
  met : ∀ (i : Nat) {x : DefI} {m : Str}, t.D[i]? = some x → x.d.at_.2 = some m → x.d.at_.1 = Str.ofString x.c ∧ Cls K (He.ga K x.d.at_.1) ∧ Meth K (He.ga K x.d.at_.1) m (He.fAd K x.d.at_)
  fre : ∀ (i : Nat) {x : Str}, t.fre[i]? = some x → mg x = none
  exc : ∀ (i : Nat) {n : String}, t.exc[i]? = some n → mg (Str.ofString n) = some (.ref (He.ga K (Str.ofString n))) ∧ PySem.W.excIn K (He.ga K (Str.ofString n)) He.veBase "ValueError.__new__" = true ∧ PySem.W.keepIn K (.ref (He.ga K (Str.ofString n))) = true ∧ PySem.W.subIn K (.ref (He.ga K (Str.ofString n))) (.type "BaseException") = some true ∧ PySem.W.typeIn K (.ref (He.ga K (Str.ofString n))) = some (.type "type")
  tup : ∀ (i : Nat) {x : Str × List Txt}, t.tup[i]? = some x → ∃ a, mg x.1 = some (.ref a) ∧ ∀ H, SqT K H a (x.2.map fun t => V.str (txtS t))
  str : ∀ (i : Nat) {x : Str × Txt}, t.str[i]? = some x → ∃ k, mg x.1 = some (.str (txtS x.2) k)
  cat : ∀ (i : Nat) {x : String × List (String × Bool)}, t.cat[i]? = some x → mg (Str.ofString x.1) = some (.ref (He.ga K (Str.ofString x.1))) ∧ (∀ n b, x.2.lookup n = some b → PySem.W.exmOne K (.ref (He.ga K (Str.ofString n))) (.ref (He.ga K (Str.ofString x.1))) = some b) ∧ ∀ n m b b', x.2.lookup n = some b → x.2.lookup m = some b' → He.ga K (Str.ofString n) = He.ga K (Str.ofString m) → n = m
  ise : ∀ (i : Nat) {x : String × Bool × List (String × Bool)}, t.ise[i]? = some x → (if x.2.1 = true then mg (Str.ofString x.1) = some (.ref (He.ga K (Str.ofString x.1))) else mg (Str.ofString x.1) = none ∧ x.1 = "ValueError") ∧ ∀ n b, x.2.2.lookup n = some b → ExcC K (He.ga K (Str.ofString n)) ∧ PySem.W.kitOne K (.ref (He.ga K (Str.ofString n))) (if x.2.1 = true then .ref (He.ga K (Str.ofString x.1)) else .type "ValueError") = some b
  fld : ∀ (i : Nat) {x : String × String}, t.fld[i]? = some x → Cls K (He.ga K (Str.ofString x.1)) ∧ NoAttr K (He.ga K (Str.ofString x.1)) (Str.ofString x.2)
  dic : ∀ (i : Nat) {x : Str × List (Txt × Txt)}, t.dic[i]? = some x → ∃ es n, mg x.1 = some (.ref (He.ga K x.1)) ∧ KDict K w (He.ga K x.1) es n ∧ entB es.toList x.2 = true ∧ ∀ s : Txt, ∃ r, PySem.W.nsIn K (He.ga K x.1) ⟨s.toArray⟩ = some r ∧ r.isSome = (x.2.lookup s).isSome ∧ ∀ t, x.2.lookup s = some t → ∃ u, r = some u ∧ RelV (.str ⟨t.toArray⟩) u
  int : ∀ (i : Nat) {x : Str × Int}, t.int[i]? = some x → ∃ k, mg x.1 = some (.int x.2 k)
  mkr : ∀ (i : Nat) {x : DefI}, t.D[i]? = some x → x.d.at_.2 = some "__init__" → mg x.d.at_.1 = some (.ref (He.ga K x.d.at_.1)) ∧ Mk K (He.ga K x.d.at_.1) (He.fAd K x.d.at_) ∧ x.d.at_.1 = Str.ofString x.c
/-- the bodies do what the codes say -/
def BodiesOk (t : Tb) (cs : Codes) : Prop := ∀ (i : Nat) (x : DefI) (K : PySem.W.Frag) (cn : Cn) (wx : WX) (XP : Cx → Prop) (P : Program) (w : World) (mg : Str → Option Value) (base : Heap) (k : Nat) (S S' : Nat → FSem), t.D[i]? = some x → cn.K = K → cn.T = tabOf K →
  (Cxt.mk cn wx XP P w mg base x.N x.d.scope k).Ok → Calls t (Cxt.mk cn wx XP P w mg base x.N x.d.scope k) S S' → ∃ c, (cs S S')[i]? = some c ∧ c.np = x.ps.length ∧ c.ns = x.N.length ∧ SSs (Cxt.mk cn wx XP P w mg base x.N x.d.scope k) x.d.body c.sv
section
variable {t : Tb} {cs : Codes} {K : PySem.W.Frag} {mg : Str → Option Value} {fd : Nat → FuncData} {P : Program} {w : World} {base : Heap}
theorem prog_ok (F : KF t w K mg fd) (B : BodiesOk t cs) : ∀ (n : Nat), (∀ (i : Nat) (x : DefI), t.D[i]? = some x → FnOk P w K mg base (L2.CX P w) (n + 1) (He.fAd K x.d.at_) (fd i) x.ps (lowSp K (tabOf K) (sem cs n i))) ∧
    ∀ (i : Nat) (x : DefI), t.D[i]? = some x → FnOk P w K mg base (L2.CX P w) n (He.fAd K x.d.at_) (fd i) x.ps (lowSp K (tabOf K) (sem' cs n i))
  | 0 => ⟨fun i x h => fn_bad, fun i x h => fn_bad⟩
  | n + 1 => by
    obtain ⟨ih, ih'⟩ := prog_ok F B n
    refine ⟨fun i x h => ?_, fun i x h => ih i x h⟩
    have key : ∃ c, (cs (sem cs n) (sem' cs n))[i]? = some c ∧ c.np = x.ps.length ∧ c.ns = x.N.length ∧ ∀ (cn : Cn) (wx : WX) (XP : Cx → Prop), cn.K = K → cn.T = tabOf K → (Cxt.mk cn wx XP P w mg base x.N x.d.scope (n + 1)).Ok → SSs (Cxt.mk cn wx XP P w mg base x.N x.d.scope (n + 1)) x.d.body c.sv := by
      have mk : ∀ (cn : Cn) (wx : WX) (XP : Cx → Prop), cn.K = K → cn.T = tabOf K → Calls t (Cxt.mk cn wx XP P w mg base x.N x.d.scope (n + 1)) (sem cs n) (sem' cs n) := fun cn wx XP hK hT => by
        refine ⟨fun j y hy hn => ⟨n + 1, He.fAd K y.d.at_, fd j, y.ps, Nat.le_refl _, ?_, F.glo j hy hn, ?_, ?_⟩, fun j y m hy hm => ?_, fun j y hy => F.fre j hy, fun j nm hy => ?_, fun j y hy => ?_, fun j y hy => ⟨F.str j hy⟩, fun j y hy => ⟨fun C hC => ?_⟩, fun j y hy => ?_, fun j y hy => ?_, fun j y hy => ?_, fun j y hy => ⟨F.int j hy⟩, fun j y hy hi => ?_⟩
        · show FnOk P w cn.K mg base _ (n + 1) _ _ _ (lowSp cn.K cn.T _); rw [hK, hT]; exact ih j y hy
        · show PySem.W.keepIn cn.K _ = true; rw [hK]; exact (F.fn j hy).kp
        · show Binds cn.K _ _ _; rw [hK]; exact F.bi j hy
        · obtain ⟨e, c1, c2⟩ := F.met j hy hm
          refine ⟨fun C hC => ⟨n + 1, He.fAd K y.d.at_, fd j, y.ps, Nat.le_refl _, ?_, ?_, ?_, ?_⟩, ⟨He.ga K (Str.ofString y.c), by show cn.T.cls _ = _; rw [hT]⟩⟩
          · show FnOk P w cn.K mg base _ (n + 1) _ _ _ (lowSp cn.K cn.T _); rw [hK, hT]; exact ih j y hy
          · have hC : cn.T.cls y.c = some C := hC
            rw [hT] at hC
            cases hC
            show Cls cn.K _; rw [hK, ← e]; exact c1
          · have hC : cn.T.cls y.c = some C := hC
            rw [hT] at hC
            cases hC
            show Meth cn.K _ _ _; rw [hK, ← e]; exact c2
          · show Binds cn.K _ _ _; rw [hK]; exact F.bi j hy
        · obtain ⟨h0, h1, h2, h3, h4⟩ := F.exc j hy
          refine ⟨He.ga K (Str.ofString nm), ?_, ?_, ?_, ?_, ?_, h0⟩
          · show cn.T.exc _ = _; rw [hT]
          · show PySem.W.excIn cn.K _ _ _ = true; rw [hK]; exact h1
          · show PySem.W.keepIn cn.K _ = true; rw [hK]; exact h2
          · show PySem.W.subIn cn.K _ _ = _; rw [hK]; exact h3
          · show PySem.W.typeIn cn.K _ = _; rw [hK]; exact h4
        · obtain ⟨a, e, q⟩ := F.tup j hy
          exact ⟨a, e, fun H => by show SqT cn.K H a _; rw [hK]; exact q H⟩
        · have hC : cn.T.cls y.1 = some C := hC
          rw [hT] at hC
          cases hC
          obtain ⟨q1, q2⟩ := F.fld j hy
          exact ⟨by show Cls cn.K _; rw [hK]; exact q1, by show NoAttr cn.K _ _; rw [hK]; exact q2⟩
        · obtain ⟨c1, c2, c3⟩ := F.cat j hy
          refine ⟨⟨.ref (He.ga K (Str.ofString y.1)), .inl c1, fun n b C hl hC => ?_⟩, fun n m b b' C h1 h2 h3 h4 => ?_⟩
          · have hC : cn.T.exc n = some C := hC
            rw [hT] at hC; cases hC
            show PySem.W.exmOne cn.K _ _ = _; rw [hK]; exact c2 n b hl
          · have h3 : cn.T.exc n = some C := h3
            have h4 : cn.T.exc m = some C := h4
            rw [hT] at h3 h4; cases h3
            exact c3 n m b b' h1 h2 (Option.some.inj h4).symm
        · obtain ⟨c1, c2⟩ := F.ise j hy
          by_cases hy1 : y.2.1 = true
          · rw [if_pos hy1] at c1
            simp only [if_pos hy1] at c2
            refine ⟨.ref (He.ga K (Str.ofString y.1)), .ref (He.ga K (Str.ofString y.1)), rfl, fun u h => h, .inl c1, fun n b D hl hD => ?_⟩
            have hD : cn.T.exc n = some D := hD
            rw [hT] at hD; cases hD
            obtain ⟨d1, d2⟩ := c2 n b hl
            exact ⟨by show ExcC cn.K _; rw [hK]; exact d1, by show PySem.W.kitOne cn.K _ _ = _; rw [hK]; exact d2⟩
          · rw [if_neg hy1] at c1
            simp only [if_neg hy1] at c2
            refine ⟨.ty "ValueError", .type "ValueError", rfl, fun u h => h, .inr ⟨c1.1, by rw [c1.2]; rfl, by rw [c1.2]; decide⟩, fun n b D hl hD => ?_⟩
            have hD : cn.T.exc n = some D := hD
            rw [hT] at hD; cases hD
            obtain ⟨d1, d2⟩ := c2 n b hl
            exact ⟨by show ExcC cn.K _; rw [hK]; exact d1, by show PySem.W.kitOne cn.K _ _ = _; rw [hK]; exact d2⟩
        · obtain ⟨es, m, e1, e2, e0, e3⟩ := F.dic j hy
          refine ⟨He.ga K y.1, es, m, e1, ?_, e0, ?_⟩
          · show KDict cn.K w _ _ _; rw [hK]; exact e2
          · show ∀ s : Txt, ∃ r, PySem.W.nsIn cn.K _ _ = some r ∧ _; rw [hK]; exact e3
        · obtain ⟨e1, e2, e3⟩ := F.mkr j hy hi
          refine ⟨He.ga K y.d.at_.1, n, He.fAd K y.d.at_, fd j, y.ps, ?_, Nat.le_refl _, ?_, ?_, e1, ?_⟩
          · show cn.T.cls y.c = _; rw [hT, e3]
          · show FnOk P w cn.K mg base _ n _ _ _ (lowSp cn.K cn.T _); rw [hK, hT]; exact ih' j y hy
          · show Mk cn.K _ _; rw [hK]; exact e2
          · show Binds cn.K _ _ _; rw [hK]; exact F.bi j hy
      have get : ∀ (cn : Cn) (wx : WX) (XP : Cx → Prop), cn.K = K → cn.T = tabOf K → (Cxt.mk cn wx XP P w mg base x.N x.d.scope (n + 1)).Ok → ∃ c, (cs (sem cs n) (sem' cs n))[i]? = some c ∧ c.np = x.ps.length ∧ c.ns = x.N.length ∧ SSs (Cxt.mk cn wx XP P w mg base x.N x.d.scope (n + 1)) x.d.body c.sv :=
        fun cn wx XP hK hT ok => B i x K cn wx XP P w mg base (n + 1) (sem cs n) (sem' cs n) h hK hT ok (mk cn wx XP hK hT)
      have nowhere : (Cxt.mk (Cn.mk K (tabOf K) (fun _ => none) (fun _ => none) [] none) (fun _ _ _ _ => False) (fun _ => False) P w mg base x.N x.d.scope (n + 1)).Ok := ⟨fun _ z => False.elim z, fun _ z => False.elim z, fun _ z => False.elim z, fun _ z => False.elim z, ⟨fun _ _ _ => False, rfl⟩, fun _ z => False.elim z, rfl⟩
      obtain ⟨c, hc, h1, h2, _⟩ := get _ _ _ rfl rfl nowhere
      refine ⟨c, hc, h1, h2, fun cn wx XP hK hT ok => ?_⟩
      obtain ⟨c', hc', _, _, h3⟩ := get cn wx XP hK hT ok
      rw [hc] at hc'; cases hc'
      exact h3
    obtain ⟨c, hc, h1, h2, h3⟩ := key
    rw [sem_succ hc, h1, h2]
    exact fn_ok (F.fn i h) (F.sc i h) fun cn wx XP hK hT ok => h3 cn wx XP hK hT ok
end
/-- the law's def: given its semantics says True of every script -/
theorem law_low {K : PySem.W.Frag} {T : Tab} {f : FSem} {H : Hp} {a : Addr} {ns : List Int} {outs : List Sk.A} (hS : SqL K H a (ns.map V.int)) (h : f [.d (.scr ns)] = .ok (.d (.bl true)) outs) : lowSp K T f [.ref a] H (fun v _ => v = .bl true) fun _ _ _ => False := by
  refine ⟨fun _ => none, [.d (.scr ns)], fun a i => ⟨(fun z => by cases z), (fun _ z => by cases z)⟩, rfl, fun k x e => ?_, ?_⟩
  · cases k with
    | zero =>
      cases e
      refine ⟨rfl, .ref a, rfl, .scr ?_⟩
      rcases hS with h | h
      · exact .inl ⟨h, rfl⟩
      · exact .inr h
    | succ k => simp at e
  · rw [h]
    intro u H' W' f' r' _
    cases r'
    rfl
end SkS

namespace SkS
open PySem PySem.Spec PyProof.Rows L2 Sk
section
variable {g : Cxt} {a b e : Expr} {es : List Expr} {ea eb ev ek : EV} {pos p p2 : Pos}
theorem s_retL (ha : SL g e ev) : SS g (.Return (some e) pos) (sRetL ev) := by
  obtain ⟨ta, pa, ma, ml⟩ := ha
  refine ⟨tRet ta, fun X x => ps_ret (pa X x), fun σ r H W D R h => ?_⟩
  refine outL (Q := D.rt) ma R h fun l r1 ad xs H1 W1 f1 R1 wt n hx rx h1 => ?_
  have h0 : g.cn.H0 ad = none := by
    cases q : g.cn.H0 ad with
    | none => rfl
    | some u => exact absurd n (R.old ad (by rw [q]; exact fun z => by cases z)).1
  exact h1 _ σ H1 W1 f1 R1 ⟨ad, xs, rfl, h0, wt, hx, rx⟩
/-- o[k] = v, o a list of one's own -/
theorem s_item {i : Nat} {x : Str} (hB : g.B) (hN : g.N[i]? = some x) (hv : Vis g.sc x) (hk : SE g b ek) (ha : SE g e ev) (hd : (x == ("__debug__" : Str)) = false := by decide) (hcd : (x == ("__classdict__" : Str)) = false := by decide)
    (hs : ∀ X, g.XP X → swapsWithSole [.Subscript (.Name x p) b p2] e pos.line X.env = pure false := by intros; rfl) (hw : ∀ X, g.XP X → swappedStores [.Subscript (.Name x p) b p2] e X.env = pure none := by intros; rfl)
    (h1 : ∀ X, g.XP X → (assignEach [.Subscript (.Name x p) b p2] X.env).map (·.2) = [assign (.Subscript (.Name x p) b p2) X.env] := by intros; rfl)
    (has : ∀ X, g.XP X → ∀ v, assign (.Subscript (.Name x p) b p2) X.env v = (do
      let ov ← holding [v] (eval (.Name x p) X.env)
      let iv ← holding [v, ov] (eval b X.env)
      standAt p2
      holding [v, ov, iv] (setItem ov iv v)
      release [v, ov, iv] []) := by intros; rfl) : SS g (.Assign [.Subscript (.Name x p) b p2] e pos) (sItem i ek ev) := by
  obtain ⟨tk, pk, mk⟩ := hk
  obtain ⟨ta, pa, ma⟩ := ha
  refine ⟨tAsg ta (gSub (tVar i) tk rSetL), fun X hx => ?_, fun σ r H W D R h => ?_⟩
  · refine ps_asg (pa X hx) (pg_sub (pe_var (by rw [(hB X hx).N]; exact hN) (by rw [(hB X hx).sc]; exact hv) hd hcd) (pk X hx) set_list (has X hx)) (hs X hx) (hw X hx) (h1 X hx)
  · refine outE (Q := fun v H1 => gSub (tVar i) tk rSetL v σ H1 D.nx) ma R h fun y r1 v H1 W1 f1 R1 rr1 h1 => ?_
    cases q : at_ r1 i with
    | un => rw [q] at h1; exact False.elim h1
    | d z => rw [q] at h1; exact False.elim h1
    | ins b2 n fs => rw [q] at h1; exact False.elim h1
    | err n => rw [q] at h1; exact False.elim h1
    | own bb l =>
      rw [q] at h1
      obtain ⟨e0, ad, xs, es, w, hx, rx⟩ := slot_own R1 q
      refine ⟨_, es, ?_⟩
      refine outE (Q := fun z H2 => rSetL (.ref ad) z v H2 fun H3 => D.nx σ H3) mk R1 h1 fun z r2 u H2 W2 f2 R2 rr2 h2 => ?_
      cases y with
      | ref j => exact False.elim h2
      | d y =>
        cases z with
        | ref j => exact False.elim h2
        | d z =>
          cases z with
          | int j =>
            cases q2 : at_ r2 i with
            | un => rw [q2] at h2; exact False.elim h2
            | d z => rw [q2] at h2; exact False.elim h2
            | ins b2 n fs => rw [q2] at h2; exact False.elim h2
            | err n => rw [q2] at h2; exact False.elim h2
            | own b2 l2 =>
              rw [q2] at h2
              obtain ⟨e02, ad2, xs2, es2, w2, hx2, rx2⟩ := slot_own R2 q2
              rw [es] at es2; cases es2
              cases rr2
              dsimp only at h2
              cases qi : ixK l2.length j with
              | none => rw [qi] at h2; exact False.elim h2
              | some n =>
                rw [qi] at h2
                have rn : Rps g.cn.K g.cn.T H2 W2 (xs2.set n v) (l2.set n y) := rx2.set n (RR.mv (σ := σ) (x := .d y) f2 rr1)
                obtain ⟨f3, R3⟩ := R2.wrList e02 es rn
                exact ⟨ad, xs2, j, n, rfl, rfl, hx2, by rw [rx2.len]; exact qi, h2 σ _ _ f3 R3⟩
          | _ => exact False.elim h2
theorem Calls.blk {t : Tb} {S S' : Nat → FSem} {bs : Scope} (C : Calls t g S S') : Calls t (g.blk bs) S S' :=
  ⟨fun i _ h1 h2 => ⟨(C.glo i h1 h2).ex⟩, fun i _ _ h1 h2 => ⟨(C.met i h1 h2).ex, (C.met i h1 h2).ok⟩, fun i _ h => C.fre i h, fun i _ h => ⟨(C.exc i h).ex⟩, fun i _ h => ⟨(C.tup i h).ex⟩, fun i _ h => ⟨(C.str i h).ex⟩, fun i _ h => ⟨(C.fld i h).ok⟩, fun i _ h => ⟨(C.cat i h).ex, (C.cat i h).inj⟩, fun i _ h => ⟨(C.ise i h).ex⟩, fun i _ h => ⟨(C.dic i h).ex⟩, fun i _ h => ⟨(C.int i h).ex⟩, fun i _ h1 h2 => ⟨(C.new i h1 h2).ex⟩⟩
theorem Calls.tr {t : Tb} {S S' : Nat → FSem} {W : WX} (C : Calls t g S S') : Calls t (g.tr W) S S' :=
  ⟨fun i _ h1 h2 => ⟨(C.glo i h1 h2).ex⟩, fun i _ _ h1 h2 => ⟨(C.met i h1 h2).ex, (C.met i h1 h2).ok⟩, fun i _ h => C.fre i h, fun i _ h => ⟨(C.exc i h).ex⟩, fun i _ h => ⟨(C.tup i h).ex⟩, fun i _ h => ⟨(C.str i h).ex⟩, fun i _ h => ⟨(C.fld i h).ok⟩, fun i _ h => ⟨(C.cat i h).ex, (C.cat i h).inj⟩, fun i _ h => ⟨(C.ise i h).ex⟩, fun i _ h => ⟨(C.dic i h).ex⟩, fun i _ h => ⟨(C.int i h).ex⟩, fun i _ h1 h2 => ⟨(C.new i h1 h2).ex⟩⟩
theorem Calls.su {t : Tb} {S S' : Nat → FSem} {ad Ca : Addr} {n : String} (C : Calls t g S S') : Calls t (g.su ad n Ca) S S' :=
  ⟨fun i _ h1 h2 => ⟨(C.glo i h1 h2).ex⟩, fun i _ _ h1 h2 => ⟨(C.met i h1 h2).ex, (C.met i h1 h2).ok⟩, fun i _ h => C.fre i h, fun i _ h => ⟨(C.exc i h).ex⟩, fun i _ h => ⟨(C.tup i h).ex⟩, fun i _ h => ⟨(C.str i h).ex⟩, fun i _ h => ⟨(C.fld i h).ok⟩, fun i _ h => ⟨(C.cat i h).ex, (C.cat i h).inj⟩, fun i _ h => ⟨(C.ise i h).ex⟩, fun i _ h => ⟨(C.dic i h).ex⟩, fun i _ h => ⟨(C.int i h).ex⟩, fun i _ h1 h2 => ⟨(C.new i h1 h2).ex⟩⟩
theorem Calls.su0 {t : Tb} {S S' : Nat → FSem} (C : Calls t g S S') : Calls t g.su0 S S' :=
  ⟨fun i _ h1 h2 => ⟨(C.glo i h1 h2).ex⟩, fun i _ _ h1 h2 => ⟨(C.met i h1 h2).ex, (C.met i h1 h2).ok⟩, fun i _ h => C.fre i h, fun i _ h => ⟨(C.exc i h).ex⟩, fun i _ h => ⟨(C.tup i h).ex⟩, fun i _ h => ⟨(C.str i h).ex⟩, fun i _ h => ⟨(C.fld i h).ok⟩, fun i _ h => ⟨(C.cat i h).ex, (C.cat i h).inj⟩, fun i _ h => ⟨(C.ise i h).ex⟩, fun i _ h => ⟨(C.dic i h).ex⟩, fun i _ h => ⟨(C.int i h).ex⟩, fun i _ h1 h2 => ⟨(C.new i h1 h2).ex⟩⟩
end
end SkS

namespace SkS
open PySem PySem.Spec PyProof.Rows L2 Sk
/-- the facts that the head is to tell -/
def DefI.fa (x : DefI) : List He.Fa := match x.d.at_.2 with
  | none => [.glo x.d.at_.1]
  | some m => if m = ("__init__" : Str) then [.cls x.d.at_.1, .meth x.d.at_.1 m, .glo x.d.at_.1, .mkr x.d.at_.1] else [.cls x.d.at_.1, .meth x.d.at_.1 m]
def Tb.fa0 (t : Tb) : List He.Fa := t.D.flatMap DefI.fa ++ (t.fre.map He.Fa.free ++ ((t.exc.flatMap fun n => [He.Fa.glo (Str.ofString n), .exc (Str.ofString n)]) ++ ((t.tup.map fun p => He.Fa.glo p.1) ++ ((t.str.map fun p => He.Fa.str p.1 (txtS p.2)) ++ ((t.fld.map fun p => He.Fa.noat (Str.ofString p.1) (Str.ofString p.2)) ++ ((t.cat.map fun p => He.Fa.glo (Str.ofString p.1)) ++ t.ise.map fun p => if p.2.1 = true then He.Fa.glo (Str.ofString p.1) else He.Fa.free (Str.ofString p.1)))))))
def Tb.fa (t : Tb) : List He.Fa := t.fa0 ++ ((t.dic.map fun p => He.Fa.glo p.1) ++ t.int.map fun p => He.Fa.int p.1 p.2)
def Tb.ts (t : Tb) : List He.Tab := t.dic.map fun p => ((fun K => He.ga K p.1), p.2.map fun q => txtS q.1)
theorem entB_ok : ∀ {es : List DictEntry} {kvs : List (Txt × Txt)}, entB es kvs = true → (∀ s : Txt, match es.find? (·.key.isStr (txtS s)) with
    | some e => ∃ t k, kvs.lookup s = some t ∧ e.val = .str (txtS t) k
    | none => kvs.lookup s = none) ∧ es.any (·.refKey) = false
  | [], [], _ => ⟨fun s => rfl, rfl⟩
  | [], _ :: _, h => by cases h
  | _ :: _, [], h => by cases h
  | e :: es, p :: r, h => by
    obtain ⟨h1, h2⟩ := Bool.and_eq_true_iff.mp (show ((match e.key, e.val with
      | .str k _, .str v _ => decide (k = txtS p.1) && decide (v = txtS p.2)
      | _, _ => false) && entB es r) = true from h)
    obtain ⟨i1, i2⟩ := entB_ok h2
    cases hk : e.key with
    | str k kt =>
      cases hv : e.val with
      | str v vt =>
        rw [hk, hv] at h1
        obtain ⟨q1, q2⟩ := Bool.and_eq_true_iff.mp h1
        have q1 := of_decide_eq_true q1
        have q2 := of_decide_eq_true q2
        subst q1 q2
        refine ⟨fun s => ?_, ?_⟩
        · rw [List.find?_cons]
          obtain ⟨pk, pv⟩ := p
          have e1 : e.key.isStr (txtS s) = decide (txtS pk = txtS s) := by
            rw [hk]
            show (txtS pk == txtS s) = _
            exact Bool.beq_eq_decide_eq _ _
          rw [e1, List.lookup_cons]
          by_cases z : pk = s
          · subst z
            simp only [decide_true]
            rw [beq_self_eq_true]
            exact ⟨pv, vt, rfl, hv⟩
          · have z2 : ¬ txtS pk = txtS s := fun y => z (by
              injection y with y
              exact List.toArray_inj y)
            have z3 : (s == pk) = false := beq_eq_false_iff_ne.mpr fun y => z y.symm
            rw [decide_eq_false z2, z3]
            exact i1 s
        · rw [List.any_cons, i2, Bool.or_false]
          unfold DictEntry.refKey
          rw [hk]
      | _ => rw [hk, hv] at h1; cases h1
    | _ => rw [hk] at h1; cases h1
def dicB (K : PySem.W.Frag) (x : Str × List (Txt × Txt)) : Bool := match K.lookup (He.ga K x.1) with
  | some ⟨_, _, .dict es _, _⟩ => entB es.toList x.2
  | _ => false
def Tb.fn (t : Tb) : List He.DefD := t.D.map (·.d)
def excB (K : PySem.W.Frag) (D : Addr) : Bool := decide (PySem.W.findIn K (.ref D) "__getattribute__" = some (some (.builtin "BaseException.__getattribute__"))) && (decide (PySem.W.findIn K (.ref D) "__getattr__" = some none) && (decide (PySem.W.subIn K (.ref D) (.type "BaseException") = some true) && (PySem.W.hasDictIn K D && (decide (PySem.W.findIn K (.ref D) "__class__" = some (some (.builtin "object.__class__"))) &&
  (decide (PySem.W.specialIn K (.builtin "object.__class__") "__get__" = some (some (.builtin "getset_descriptor.__get__"))) && (decide (PySem.W.takesIn K (.builtin "object.__class__") = some true) && decide (PySem.W.mroIn K D (.type "object") = some true)))))))
theorem excB_ok {K : PySem.W.Frag} {D : Addr} (h : excB K D = true) : ExcC K D := by
  unfold excB at h
  simp only [Bool.and_eq_true, decide_eq_true_eq] at h
  exact ⟨h.1, h.2.1, h.2.2.1, h.2.2.2.1, h.2.2.2.2.1, h.2.2.2.2.2.1, h.2.2.2.2.2.2.1, h.2.2.2.2.2.2.2⟩
def catB (K : PySem.W.Frag) (x : String × List (String × Bool)) : Bool := (x.2.all fun p => decide (PySem.W.exmOne K (.ref (He.ga K (Str.ofString p.1))) (.ref (He.ga K (Str.ofString x.1))) = some p.2)) && decide ((x.2.map fun p => He.ga K (Str.ofString p.1)).Nodup)
def iseB (K : PySem.W.Frag) (x : String × Bool × List (String × Bool)) : Bool := x.2.2.all fun p => excB K (He.ga K (Str.ofString p.1)) && decide (PySem.W.kitOne K (.ref (He.ga K (Str.ofString p.1))) (if x.2.1 = true then .ref (He.ga K (Str.ofString x.1)) else .type "ValueError") = some p.2)
def Tb.ex (t : Tb) (K : PySem.W.Frag) : Bool := (t.tup.all fun p => He.tupB K p.1 (p.2.map fun z => .str (txtS z))) && (t.cat.all (catB K) && (t.ise.all (iseB K) && t.dic.all (dicB K)))
theorem mem_lookup {α β : Type} [BEq α] [LawfulBEq α] : ∀ {l : List (α × β)} {a : α} {b : β}, l.lookup a = some b → (a, b) ∈ l
  | [], _, _, h => by cases h
  | (c, d) :: l, a, b, h => by
    rw [List.lookup_cons] at h
    by_cases q : (a == c) = true
    · rw [q] at h
      cases h
      rw [eq_of_beq q]
      exact List.mem_cons_self
    · rw [Bool.eq_false_iff.mpr q] at h
      exact List.mem_cons_of_mem _ (mem_lookup h)
/-- what is looked at in the table -/
def Tb.ck (t : Tb) : Bool := (t.ise.all fun p => p.2.1 || decide (p.1 = "ValueError")) && (t.D.all (fun x => x.d.dfl.isEmpty && x.d.kwd.isEmpty && C8.scC x.N x.ps x.d.scope && (match x.d.at_.2 with
  | none => true
  | some _ => decide (x.d.at_.1 = Str.ofString x.c))) && t.fld.all fun p => t.D.any fun x => decide (x.d.at_.1 = Str.ofString p.1) && x.d.at_.2.isSome)
theorem nodup_name {K : PySem.W.Frag} : ∀ {l : List (String × Bool)} {n m : String} {b b' : Bool}, (l.map fun p => He.ga K (Str.ofString p.1)).Nodup → (n, b) ∈ l → (m, b') ∈ l → He.ga K (Str.ofString n) = He.ga K (Str.ofString m) → n = m
  | [], _, _, _, _, _, h, _, _ => by cases h
  | p :: l, n, m, b, b', nd, h1, h2, e => by
    rw [List.map_cons, List.nodup_cons] at nd
    rcases List.mem_cons.mp h1 with k1 | k1
    · rcases List.mem_cons.mp h2 with k2 | k2
      · rw [← k1] at k2; cases k2; rfl
      · have : He.ga K (Str.ofString n) ∈ l.map (fun p : String × Bool => He.ga K (Str.ofString p.1)) := List.mem_map.mpr ⟨(m, b'), k2, e.symm⟩
        rw [← k1] at nd
        exact absurd this nd.1
    · rcases List.mem_cons.mp h2 with k2 | k2
      · have : He.ga K (Str.ofString m) ∈ l.map (fun p : String × Bool => He.ga K (Str.ofString p.1)) := List.mem_map.mpr ⟨(n, b), k1, e⟩
        rw [← k2] at nd
        exact absurd this nd.1
      · exact nodup_name nd.2 k1 k2 e
def Bi (x : DefI) : Prop := ∀ (kV doc pm : Value) (an : Option Addr) (cdv ct : Value) (us : List Value), us.length = x.ps.length → bindArgs (PySem.W.fnOf x.d.name x.d.qual x.d.params x.d.body x.d.scope .none kV doc pm an cdv ct) ⟨us, []⟩ = pure (x.ps.zip us)
def All {α : Type} (P : Nat → α → Prop) : Nat → List α → Prop
  | _, [] => True
  | n, x :: r => P n x ∧ All P (n + 1) r
theorem All.get {α : Type} {P : Nat → α → Prop} : ∀ {l : List α} {n i : Nat} {x : α}, All P n l → l[i]? = some x → P (n + i) x
  | [], _, _, _, _, e => by simp at e
  | y :: r, n, 0, x, h, e => by simp at e; subst e; exact h.1
  | y :: r, n, i + 1, x, h, e => by
    have := All.get (i := i) (x := x) h.2 (by simpa using e)
    rw [show n + (i + 1) = n + 1 + i by omega]
    exact this
def Bo (t : Tb) (cs : Codes) (i : Nat) (x : DefI) : Prop := ∀ (K : PySem.W.Frag) (cn : Cn) (wx : WX) (XP : Cx → Prop) (P : Program) (w : World) (mg : Str → Option Value) (base : Heap) (k : Nat) (S S' : Nat → FSem), cn.K = K → cn.T = tabOf K →
  (Cxt.mk cn wx XP P w mg base x.N x.d.scope k).Ok → Calls t (Cxt.mk cn wx XP P w mg base x.N x.d.scope k) S S' → ∃ c, (cs S S')[i]? = some c ∧ c.np = x.ps.length ∧ c.ns = x.N.length ∧ SSs (Cxt.mk cn wx XP P w mg base x.N x.d.scope k) x.d.body c.sv
theorem bodies_of {t : Tb} {cs : Codes} (h : All (Bo t cs) 0 t.D) : BodiesOk t cs := fun i x K cn wx XP P w mg base k S S' hx hK hT ok C => by
  have := h.get hx
  rw [Nat.zero_add] at this
  exact this K cn wx XP P w mg base k S S' hK hT ok C
theorem mem_of_get {α : Type} {l : List α} {i : Nat} {x : α} (h : l[i]? = some x) : x ∈ l := List.mem_of_getElem? h
theorem kf_of {t : Tb} {tf : List He.Defn} {w : World} {h : Heap} {K : PySem.W.Frag} {mg : Str → Option Value} (X : K.In h) (G : h.Ns mainGlobals mg) (c : He.SaysX t.fa t.fn t.ts tf t.ex w h K) (ck : t.ck = true) (bi : All (fun _ => Bi) 0 t.D) : ∃ fd, KF t w K mg fd := by
  have sd := c.t.d
  have sf : ∀ {f : He.Fa}, f ∈ t.fa0 → f.ok K = true := fun h => sd.facts (List.mem_append_left _ h)
  unfold Tb.ck at ck
  obtain ⟨ck0, ck⟩ := Bool.and_eq_true_iff.mp ck
  rw [Bool.and_eq_true, List.all_eq_true, List.all_eq_true] at ck
  obtain ⟨ck1, ck2⟩ := ck
  have ck' : ∀ x ∈ t.D, x.d.dfl = [] ∧ x.d.kwd = [] ∧ C8.scC x.N x.ps x.d.scope = true ∧ (∀ m, x.d.at_.2 = some m → x.d.at_.1 = Str.ofString x.c) := fun x hx => by
    have := ck1 x hx
    simp only [Bool.and_eq_true, List.isEmpty_iff] at this
    obtain ⟨⟨⟨h1, h2⟩, h3⟩, h4⟩ := this
    refine ⟨h1, h2, h3, fun m hm => ?_⟩
    rw [hm] at h4
    exact of_decide_eq_true h4
  have ex : ∀ i : Nat, ∃ fd, ∀ x : DefI, t.D[i]? = some x → FunD K x.d.name x.d.qual x.d.params x.d.body x.d.scope [] [] (He.fAd K x.d.at_) fd := fun i => by
    cases e : t.D[i]? with
    | none => exact ⟨default, fun x hx => by cases hx⟩
    | some x =>
      obtain ⟨fd, F⟩ := sd.def_ i (d := x.d) (by show (t.D.map (·.d))[i]? = _; rw [List.getElem?_map, e]; rfl)
      obtain ⟨h1, h2, _⟩ := ck' x (mem_of_get e)
      refine ⟨fd, fun y hy => ?_⟩
      cases hy
      have e1 : x.d.dvs K = [] := by unfold He.DefD.dvs; rw [h1]; rfl
      have e2 : x.d.kws K = [] := by unfold He.DefD.kws; rw [h2]; rfl
      rw [e1, e2] at F
      exact F
  let fd := fun i => Classical.choose (ex i)
  have hfd : ∀ (i : Nat) (x : DefI), t.D[i]? = some x → FunD K x.d.name x.d.qual x.d.params x.d.body x.d.scope [] [] (He.fAd K x.d.at_) (fd i) := fun i => Classical.choose_spec (ex i)
  have inD : ∀ {x : DefI} {f : He.Fa}, x ∈ t.D → f ∈ x.fa → f ∈ t.fa0 := fun hx hf => List.mem_append_left _ (List.mem_flatMap.mpr ⟨_, hx, hf⟩)
  have meths : ∀ {x : DefI} {m : Str}, x ∈ t.D → x.d.at_.2 = some m → Cls K (He.ga K x.d.at_.1) ∧ Meth K (He.ga K x.d.at_.1) m (He.ma K (He.ga K x.d.at_.1) m) := fun {x m} hx hm => by
    have f1 : He.Fa.cls x.d.at_.1 ∈ x.fa := by unfold DefI.fa; rw [hm]; dsimp only; split <;> exact List.mem_cons_self
    have f2 : He.Fa.meth x.d.at_.1 m ∈ x.fa := by unfold DefI.fa; rw [hm]; dsimp only; split <;> exact List.mem_cons_of_mem _ List.mem_cons_self
    exact ⟨He.cls_ok (sf (inD hx f1)), He.meth_ok (sf (inD hx f2))⟩
  refine ⟨fd, fun i x hx => hfd i x hx, fun i x hx => C8.fnScope_by (ck' x (mem_of_get hx)).2.2.1, fun i x hx => ?_, fun i x hx hn => ?_, fun i x m hx hm => ?_, fun i x hx => ?_, fun i n hx => ?_, fun i x hx => ?_, fun i x hx => ?_, fun i x hx => ?_, fun i x hx => ?_, fun i x hx => ?_, fun i x hx => ?_, fun i x hx => ?_, fun i x hx hi => ?_⟩
  · exact (hfd i x hx).bindsN (bi.get hx)
  · have f1 : He.Fa.glo x.d.at_.1 ∈ x.fa := by unfold DefI.fa; rw [hn]; exact List.mem_cons_self
    have := He.glo_ok X G (sf (inD (mem_of_get hx) f1))
    rw [this]
    unfold He.fAd
    rw [hn]
  · obtain ⟨h1, h2⟩ := meths (mem_of_get hx) hm
    refine ⟨(ck' x (mem_of_get hx)).2.2.2 m hm, h1, ?_⟩
    unfold He.fAd
    rw [hm]
    exact h2
  · exact He.free_ok X G (sf (List.mem_append_right _ (List.mem_append_left _ (List.mem_map.mpr ⟨_, mem_of_get hx, rfl⟩))))
  · have f : ∀ {f : He.Fa}, f ∈ [He.Fa.glo (Str.ofString n), .exc (Str.ofString n)] → f ∈ t.fa0 := fun hf => List.mem_append_right _ (List.mem_append_right _ (List.mem_append_left _ (List.mem_flatMap.mpr ⟨_, mem_of_get hx, hf⟩)))
    exact ⟨He.glo_ok X G (sf (f List.mem_cons_self)), He.exc_ok (sf (f (List.mem_cons_of_mem _ List.mem_cons_self)))⟩
  · have f : He.Fa.glo x.1 ∈ t.fa0 := List.mem_append_right _ (List.mem_append_right _ (List.mem_append_right _ (List.mem_append_left _ (List.mem_map.mpr ⟨_, mem_of_get hx, rfl⟩))))
    refine ⟨_, He.glo_ok X G (sf f), fun H => ?_⟩
    have := He.tupB_ok (List.all_eq_true.mp (Bool.and_eq_true_iff.mp c.more).1 x (mem_of_get hx)) H
    rw [List.map_map] at this
    exact this
  · exact He.str_ok X G (sf (List.mem_append_right _ (List.mem_append_right _ (List.mem_append_right _ (List.mem_append_right _ (List.mem_append_left _ (List.mem_map.mpr ⟨_, mem_of_get hx, rfl⟩)))))))
  · have f : He.Fa.glo (Str.ofString x.1) ∈ t.fa0 := List.mem_append_right _ (List.mem_append_right _ (List.mem_append_right _ (List.mem_append_right _ (List.mem_append_right _ (List.mem_append_right _ (List.mem_append_left _ (List.mem_map.mpr ⟨_, mem_of_get hx, rfl⟩)))))))
    have h := List.all_eq_true.mp (Bool.and_eq_true_iff.mp (Bool.and_eq_true_iff.mp c.more).2).1 x (mem_of_get hx)
    obtain ⟨h1, h2⟩ := Bool.and_eq_true_iff.mp h
    refine ⟨He.glo_ok X G (sf f), fun n b hl => of_decide_eq_true (List.all_eq_true.mp h1 (n, b) (mem_lookup hl)), fun n m b b' hn hm e => ?_⟩
    have nd : (x.2.map fun p => He.ga K (Str.ofString p.1)).Nodup := of_decide_eq_true h2
    exact nodup_name nd (mem_lookup hn) (mem_lookup hm) e
  · have f : (if x.2.1 = true then He.Fa.glo (Str.ofString x.1) else He.Fa.free (Str.ofString x.1)) ∈ t.fa0 := List.mem_append_right _ (List.mem_append_right _ (List.mem_append_right _ (List.mem_append_right _ (List.mem_append_right _ (List.mem_append_right _ (List.mem_append_right _ (List.mem_map.mpr ⟨_, mem_of_get hx, rfl⟩)))))))
    have h := List.all_eq_true.mp (Bool.and_eq_true_iff.mp (Bool.and_eq_true_iff.mp (Bool.and_eq_true_iff.mp c.more).2).2).1 x (mem_of_get hx)
    refine ⟨?_, fun n b hl => ?_⟩
    · by_cases q : x.2.1 = true
      · rw [if_pos q] at f ⊢
        exact He.glo_ok X G (sf f)
      · rw [if_neg q] at f ⊢
        refine ⟨He.free_ok X G (sf f), ?_⟩
        rcases Bool.or_eq_true_iff.mp (List.all_eq_true.mp ck0 x (mem_of_get hx)) with z | z
        · exact absurd z q
        · exact of_decide_eq_true z
    · obtain ⟨h1, h2⟩ := Bool.and_eq_true_iff.mp (List.all_eq_true.mp h (n, b) (mem_lookup hl))
      exact ⟨excB_ok h1, of_decide_eq_true h2⟩
  · have f : He.Fa.noat (Str.ofString x.1) (Str.ofString x.2) ∈ t.fa0 := List.mem_append_right _ (List.mem_append_right _ (List.mem_append_right _ (List.mem_append_right _ (List.mem_append_right _ (List.mem_append_left _ (List.mem_map.mpr ⟨_, mem_of_get hx, rfl⟩))))))
    refine ⟨?_, He.noat_ok (sf f)⟩
    obtain ⟨y, hy, h2⟩ := List.any_eq_true.mp (ck2 x (mem_of_get hx))
    rw [Bool.and_eq_true] at h2
    obtain ⟨m, hm⟩ := Option.isSome_iff_exists.mp h2.2
    rw [← of_decide_eq_true h2.1]
    exact (meths hy hm).1
  · have f : He.Fa.glo x.1 ∈ t.fa := List.mem_append_right _ (List.mem_append_left _ (List.mem_map.mpr ⟨_, mem_of_get hx, rfl⟩))
    obtain ⟨es, n, D⟩ := c.t.tab i (t := ((fun K => He.ga K x.1), x.2.map fun q => txtS q.1)) (by show (t.dic.map _)[i]? = _; rw [List.getElem?_map, hx]; rfl)
    have D : KDict K w (He.ga K x.1) es n := D
    have h : dicB K x = true := List.all_eq_true.mp (Bool.and_eq_true_iff.mp (Bool.and_eq_true_iff.mp (Bool.and_eq_true_iff.mp c.more).2).2).2 x (mem_of_get hx)
    unfold dicB at h
    rw [D.at_] at h
    obtain ⟨h1, h2⟩ := entB_ok h
    refine ⟨es, n, He.glo_ok X G (sd.facts f), D, h, fun s => ?_⟩
    have h3 := h1 s
    unfold PySem.W.nsIn
    rw [D.at_]
    simp only
    change ∃ r, (match es.toList.find? (·.key.isStr (txtS s)) with
      | some e => some (some e.val)
      | none => if es.toList.any (·.refKey) then none else some none) = some r ∧ _
    cases q : es.toList.find? (·.key.isStr (txtS s)) with
    | none =>
      rw [q] at h3
      have h3 : x.2.lookup s = none := h3
      exact ⟨none, by rw [h2]; rfl, by rw [h3]; rfl, fun t ht => by rw [h3] at ht; cases ht⟩
    | some e =>
      rw [q] at h3
      obtain ⟨t, k, h4, h5⟩ := h3
      refine ⟨some e.val, rfl, by rw [h4]; rfl, fun t' ht => ?_⟩
      rw [h4] at ht
      cases ht
      exact ⟨e.val, rfl, k, h5⟩
  · have f : He.Fa.int x.1 x.2 ∈ t.fa := List.mem_append_right _ (List.mem_append_right _ (List.mem_map.mpr ⟨_, mem_of_get hx, rfl⟩))
    exact He.int_ok X G (sd.facts f)
  · have f1 : He.Fa.glo x.d.at_.1 ∈ x.fa ∧ He.Fa.mkr x.d.at_.1 ∈ x.fa := by unfold DefI.fa; rw [hi]; simp
    refine ⟨He.glo_ok X G (sf (inD (mem_of_get hx) f1.1)), ?_, (ck' x (mem_of_get hx)).2.2.2 _ hi⟩
    have := He.mkr_ok (sf (inD (mem_of_get hx) f1.2))
    unfold He.fAd
    rw [hi]
    exact this
/-- a def of whose exceptions nothing is wished -/
theorem fn_calm {P : Program} {w : World} {K : PySem.W.Frag} {mg : Str → Option Value} {base : Heap} {k : Nat} {f : Addr} {fd : FuncData} {ps : List Str} {sp : Sp} (F : FnOk P w K mg base (L2.CX P w) k f fd ps sp) : FnOk P w K mg base L2.CX0 k f fd ps (fun vs H Q _ => sp vs H Q fun _ _ _ => False) :=
  ⟨fun vs H Q _ h => F.len vs H Q _ h, fun A outer s H args us vs Q E hr e0 hb r hs => codeAny_mono (F.run A outer s H args us vs Q _ hr e0 hb r hs) fun r s' h => by
    cases r with
    | ok fl => cases fl <;> exact h
    | error e =>
      obtain ⟨_, _, _, _, _, _, _, _, _, _, _, _, z⟩ := h
      exact False.elim z⟩
end SkS

namespace HT
open Sk
/-! loops, step by step -/
theorem whileN_go {t : EV} {b : SV} {n : Nat} {r r1 r2 : Slots} (ht : tst t r = .ok true r1) (hb : b r1 = .nx r2) : whileN t b (n + 1) r = whileN t b n r2 := by
  show (tst t r).out _ = _
  rw [ht]; simp only [Res.out_ok, if_true, hb]
theorem whileN_end {t : EV} {b : SV} {n : Nat} {r r1 : Slots} (ht : tst t r = .ok false r1) : whileN t b (n + 1) r = .nx r1 := by
  show (tst t r).out _ = _
  rw [ht]; simp
theorem whileN_ex {t : EV} {b : SV} {n : Nat} {r r1 r2 : Slots} {c : String} (ht : tst t r = .ok true r1) (hb : b r1 = .ex c r2) : whileN t b (n + 1) r = .ex c r2 := by
  show (tst t r).out _ = _
  rw [ht]; simp only [Res.out_ok, if_true, hb]
theorem whileN_rt {t : EV} {b : SV} {n : Nat} {r r1 r2 : Slots} {v : RV} (ht : tst t r = .ok true r1) (hb : b r1 = .rt v r2) : whileN t b (n + 1) r = .rt v r2 := by
  show (tst t r).out _ = _
  rw [ht]; simp only [Res.out_ok, if_true, hb]
theorem whileN_bk {t : EV} {b : SV} {n : Nat} {r r1 r2 : Slots} (ht : tst t r = .ok true r1) (hb : b r1 = .bk r2) : whileN t b (n + 1) r = .nx r2 := by
  show (tst t r).out _ = _
  rw [ht]; simp only [Res.out_ok, if_true, hb]
theorem forL_go {i : Nat} {b : SV} {x : D} {xs : List D} {r r1 : Slots} (hf : freeA (at_ r i) = true) (hi : i < r.length) (hb : b (r.set i (.d x)) = .nx r1) : forL i b (x :: xs) r = forL i b xs r1 := by
  show (match store i (.d x) r with | .nx r0 => _ | _ => _) = _
  unfold store
  rw [if_pos ⟨hf, hi⟩]; simp only [hb]
theorem forL_rt {i : Nat} {b : SV} {x : D} {xs : List D} {r r1 : Slots} {v : RV} (hf : freeA (at_ r i) = true) (hi : i < r.length) (hb : b (r.set i (.d x)) = .rt v r1) : forL i b (x :: xs) r = .rt v r1 := by
  show (match store i (.d x) r with | .nx r0 => _ | _ => _) = _
  unfold store
  rw [if_pos ⟨hf, hi⟩]; simp only [hb]
theorem forL_bk {i : Nat} {b : SV} {x : D} {xs : List D} {r r1 : Slots} (hf : freeA (at_ r i) = true) (hi : i < r.length) (hb : b (r.set i (.d x)) = .bk r1) : forL i b (x :: xs) r = .nx r1 := by
  show (match store i (.d x) r with | .nx r0 => _ | _ => _) = _
  unfold store
  rw [if_pos ⟨hf, hi⟩]; simp only [hb]
theorem forL_ex {i : Nat} {b : SV} {x : D} {xs : List D} {r r1 : Slots} {c : String} (hf : freeA (at_ r i) = true) (hi : i < r.length) (hb : b (r.set i (.d x)) = .ex c r1) : forL i b (x :: xs) r = .ex c r1 := by
  show (match store i (.d x) r with | .nx r0 => _ | _ => _) = _
  unfold store
  rw [if_pos ⟨hf, hi⟩]; simp only [hb]
/-! for simp (disch := omega) -/
theorem fits_s {n : Nat} (h : n ≤ 1000000) : Fits n = True := eq_true (fits_of h)
theorem fit1_s {n : Nat} (h : n ≤ 1000000) : Fit1 n = True := eq_true (fit1_of h)
theorem okR_s {i : Int} (h : -1000000000000 ≤ i) (h2 : i ≤ 1000000000000) : okR i = True := eq_true (okR_of h h2)
theorem eqD_str (s t : Txt) : eqD (.str s) (.str t) = some (decide (s = t)) := rfl
theorem eqD_int (s t : Int) : eqD (.int s) (.int t) = some (decide (s = t)) := rfl
@[simp] theorem inD_str (c : Nat) (t : Txt) : inD (.str [c]) (.str t) = some (decide (c ∈ t)) := rfl
end HT

namespace SkS
open PySem PySem.Spec PyProof.Rows L2 Sk
/-! ### for k, v in d.items(), d a module's constant dict of texts -/
abbrev stxt (t : Txt) : Str := ⟨t.toArray⟩
/-- the pairs, each a new tuple -/
def ItK (kvs : List (Txt × Txt)) : It :=
  ⟨fun i H => i < kvs.length, fun i H x H' => ∃ T p, kvs[i]? = some p ∧ x = .ref T ∧ H T = none ∧ H' = upd H T (.tup [.str (stxt p.1), .str (stxt p.2)]), fun i H => kvs.length ≤ i⟩
def iItK (kvs : List (Txt × Txt)) : TI := fun σ H R => R (ItK kvs) H
/-- the entries' values -/
def valsOf : List DictEntry → List (Txt × Txt) → List (Str × Value)
  | e :: es, p :: r => (stxt p.1, e.val) :: valsOf es r
  | _, _ => []
theorem entB_pairs (prog : Program) (w : World) : ∀ {es : List DictEntry} {kvs : List (Txt × Txt)}, entB es kvs = true → Pairs (strKind prog w) es (valsOf es kvs) ∧ (valsOf es kvs).map (·.1) = kvs.map (fun p => stxt p.1) ∧ ∀ (i : Nat) (p : Txt × Txt), kvs[i]? = some p → ∃ k, (valsOf es kvs)[i]? = some (stxt p.1, Value.str (stxt p.2) k)
  | [], [], _ => ⟨.nil, rfl, fun i p h => by simp at h⟩
  | [], _ :: _, h => by cases h
  | _ :: _, [], h => by cases h
  | e :: es, p :: r, h => by
    obtain ⟨h1, h2⟩ := Bool.and_eq_true_iff.mp (show ((match e.key, e.val with
      | .str k _, .str v _ => decide (k = stxt p.1) && decide (v = stxt p.2)
      | _, _ => false) && entB es r) = true from h)
    obtain ⟨i1, i2, i3⟩ := entB_pairs prog w h2
    cases hk : e.key with
    | str k kt =>
      cases hv : e.val with
      | str v vt =>
        rw [hk, hv] at h1
        obtain ⟨q1, q2⟩ := Bool.and_eq_true_iff.mp h1
        have q1 := of_decide_eq_true q1
        have q2 := of_decide_eq_true q2
        refine ⟨.cons ?_ rfl i1, ?_, fun i p' hp => ?_⟩
        · show Value.isStrOf (stxt p.1) e.key = true
          rw [hk, q1]
          exact PySem.strKind_is prog w _ kt
        · show stxt p.1 :: _ = stxt p.1 :: _
          rw [i2]
        · cases i with
          | zero =>
            simp at hp
            subst hp
            exact ⟨vt, by show some (stxt p.1, e.val) = _; rw [hv, q2]⟩
          | succ i =>
            obtain ⟨k', hk'⟩ := i3 i p' (by simpa using hp)
            exact ⟨k', by show (valsOf es r)[i]? = _; exact hk'⟩
      | _ => rw [hk, hv] at h1; cases h1
    | _ => rw [hk] at h1; cases h1
section
variable {X : Cx} {d : Addr} {es : Array DictEntry} {n : Nat} {kvs : List (Txt × Txt)} {pins : List (Addr × Obj)} {σ : L2.St} {H : Hp} {s : Shared}
theorem kd_at (D : KDict X.K X.w d es n) (I : L2.Inv X pins σ H s) (hB : entB es.toList kvs = true) (nd : (kvs.map (fun p => stxt p.1)).Nodup) : s.heap.DictAt (strKind X.prog X.w) d (valsOf es.toList kvs) n := by
  obtain ⟨i1, i2, _⟩ := entB_pairs X.prog X.w hB
  refine ⟨_, es, I.kIn _ _ D.at_, ⟨rfl, rfl, rfl⟩, rfl, fun e he => ?_, i1, by rw [i2]; exact nd⟩
  obtain ⟨x, t, e1, e2⟩ := D.lit.all e (Array.mem_toList_iff.mpr he)
  exact ⟨x, by rw [e1]; exact PySem.strKind_is X.prog X.w x t, e2⟩
end
theorem valsOf_len : ∀ {es : List DictEntry} {kvs : List (Txt × Txt)}, entB es kvs = true → (valsOf es kvs).length = kvs.length
  | [], [], _ => rfl
  | [], _ :: _, h => by cases h
  | _ :: _, [], h => by cases h
  | e :: es, p :: r, h => by
    obtain ⟨h1, h2⟩ := Bool.and_eq_true_iff.mp h
    show (valsOf es r).length + 1 = _
    rw [valsOf_len h2]; rfl
section
variable {X : Cx} {d : Addr} {es : Array DictEntry} {n : Nat} {kvs : List (Txt × Txt)} {elts : List Expr} {kk : Nat} {tpos apos cpos : Pos} {e : Expr}
theorem turn_itemsK {P : Program} {w : World} {K : PySem.W.Frag} (it : Addr) (D : KDict K w d es n) (hB : entB es.toList kvs = true) (nd : (kvs.map (fun p => stxt p.1)).Nodup) :
    Turn P w K (.Tuple elts kk tpos) (ItK kvs) [it] it (fun i h => ∃ ok ov, IsItemIter h it d i kvs.length n ok ov) where
  mem := by simp
  obj := fun i h st b hb => by
    have e : b = it := by simpa using hb
    subst e
    obtain ⟨ok, ov, e⟩ := st
    exact ⟨_, e, fun v z => nomatch z⟩
  keep := fun i h h' st k => let ⟨ok, ov, e⟩ := st; ⟨ok, ov, k it (by simp) _ e⟩
  item := by
    intro X' hP hw hK hc i pins s σ H E I hf st hi
    subst hP hw hK
    obtain ⟨p, hp⟩ : ∃ p, kvs[i]? = some p := ⟨kvs[i], List.getElem?_eq_getElem hi⟩
    have hm := kd_at D I hB nd
    obtain ⟨_, _, i3⟩ := entB_pairs X'.prog X'.w hB
    obtain ⟨vt, hu⟩ := i3 i p hp
    obtain ⟨ok, ov, he⟩ := st
    rw [← valsOf_len hB] at he
    have hlt : it < s.heap.objs.size := Heap.lt_size he
    refine wpAny_pyNext_items_item he hm hu fun key h' hkey ho hT hz hk => ?_
    refine ⟨_, rfl, wpAny_letOwnedTupleGo_items (s := { s with heap := h' }) ho fun h'' he' sb => ?_⟩
    have hT2 : h''.get? s.heap.objs.size = some { cls := .type "tuple", data := .seq #[key, .str (stxt p.2) vt] } := (sb.2 _ (Nat.ne_of_gt hlt)).trans hT
    have rk : RelV (.str (stxt p.1)) key := by
      obtain ⟨t, rfl⟩ := Value.isStrOf_shape hkey
      exact ⟨t, rfl⟩
    have new : ObjOk X'.prog X'.w (upd H s.heap.objs.size (.tup [.str (stxt p.1), .str (stxt p.2)])) h'' s.heap.objs.size (.tup [.str (stxt p.1), .str (stxt p.2)]) :=
      ⟨by show 2 ≤ sizeLine; decide, [key, .str (stxt p.2) vt], .cons rk (.cons ⟨vt, rfl⟩ .nil), ⟨_, hT2, rfl, _, rfl⟩⟩
    have I1 : L2.Inv X' pins σ (upd H s.heap.objs.size (.tup [.str (stxt p.1), .str (stxt p.2)])) { s with heap := h'' } :=
      I.turnedNew (t' := s.toks) (ch := [it]) (fun b ob hb e => (sb.2 b (by simpa using hb)).trans (hk b ob (by simpa using hb) e)) hf (Nat.le_refl _) new
    refine ⟨.ref s.heap.objs.size, _, I1, rfl, ⟨_, p, hp, rfl, I.hok.fresh (Nat.le_refl _), rfl⟩, ⟨key, .str (stxt p.2) vt, ?_⟩, fun b hb => ?_⟩
    · rw [← valsOf_len hB]; exact he'
    · have e : b = it := by simpa using hb
      rw [e, upd_ne (Nat.ne_of_lt hlt)]
      exact (hf it (by simp)).1
  done := by
    intro X' hP hw hK hc i pins s σ H E I hf st hi
    subst hP hw hK
    obtain ⟨f0, f1, f2, f3, f4, f5⟩ := hf it (by simp)
    have hm := kd_at D I hB nd
    obtain ⟨ok, ov, he⟩ := st
    rw [← valsOf_len hB] at he
    exact wpAny_pyNext_items_end (I.ok.hd hc) he hm (List.getElem?_eq_none (by rw [valsOf_len hB]; exact hi)) fun h' eb => ⟨rfl, I.turned (t' := s.toks) (fun b ob hb e => eb b ob hb e) f0 f1 f3 f4 f5⟩
  self := fun A i s Q E st h => let ⟨_, _, e⟩ := st; PySem.W.kcp_self e h
theorem pi_itemsK (he : PE X e (tC (.ref d))) (D : KDict X.K X.w d es n) (hB : entB es.toList kvs = true) (nd : (kvs.map (fun p => stxt p.1)).Nodup) (hbase : attributeBase e "items" X.env (eval e X.env) = eval e X.env := by rfl) (hline : (apos.endLine == cpos.line) = true := by rfl) :
    PI X (.Tuple elts kk tpos) (.Call (.Attribute e "items" apos) [] [] cpos) (iItK kvs) := by
  refine ⟨fun pins s σ H R I h => ?_⟩
  refine wpAny_Call_method (T := "dict") (id := "dict.items") hbase rfl hline F.plainAttrs_dict F.slot_dict_items F.type_dict_items (thn (he.run pins s σ H (fun v H1 => v = .ref d ∧ R (ItK kvs) H1) I ⟨rfl, h⟩) fun u s1 ⟨x, H1, I1, rx, ex, q⟩ => ?_)
  subst ex
  obtain rfl : u = Value.ref d := rx
  have hm := kd_at D I1 hB nd
  refine ⟨hm.dictOf.typeIs, hm.dictOf.mapOf.noDict, ?_⟩
  have I2 : L2.Inv X pins σ H1 { s1 with heap := s1.heap.push { cls := .type "dict_items", data := .fields #[.ref d] } } := I1.kept (t' := s1.toks) fun b ob q => Heap.get?_push_of_some _ q
  have fin : wpAny (model X.prog X.w) X.A (pyIter (.ref s1.heap.objs.size)) (PIE X pins σ (.Tuple elts kk tpos) R) X.xe { s1 with heap := s1.heap.push { cls := .type "dict_items", data := .fields #[.ref d] } } := by
    refine wpAny_pyIter_items (d := d) (knd := strKind X.prog X.w) ⟨_, Heap.get?_push_size _ rfl, rfl, rfl⟩ (hm.push _) (pi_one (tk := s1.toks) I2 _ (turn_itemsK _ D hB nd) ⟨.none, .none, ?_⟩ q)
    rw [← valsOf_len hB]
    exact Heap.get?_push_size _ rfl
  show wpAny _ _ (callWith cpos (.builtin "dict.items") [.ref d] [] []) _ X.xe s1
  exact method_meetsIn F.slot_dict_items F.entry_dict_items rfl (PySem.evalArgs_none ⟨rfl, hm.dictOf.typeIs, F.args_dict_items_1 _, _, meets_dict_items (strKind X.prog X.w) d D.low, ⟨_, hm.dictOf⟩, fin⟩)
end
end SkS

namespace Sk
noncomputable section
/-! [e for x, y in d.items() if t], d a constant dict of texts -/
@[simp] def compL2 (i j : Nat) (t e : EV) : List (Txt × Txt) → List D → Slots → Res (List D)
  | [], acc, r => .ok acc r
  | p :: xs, acc, r => match tst t ((r.set i (.d (.str p.1))).set j (.d (.str p.2))) with
    | .ok true r1 => (match e r1 with
      | .ok (.d v) r2 => if Fit1 acc.length then compL2 i j t e xs (acc ++ [v]) ((r2.set i .un).set j .un) else .bad
      | _ => .bad)
    | .ok false r1 => compL2 i j t e xs acc ((r1.set i .un).set j .un)
    | _ => .bad
def eComp2 (i j : Nat) (kvs : List (Txt × Txt)) (t e : EV) : EV := fun r => if (plainA (at_ r i) ∧ i < r.length) ∧ plainA (at_ r j) ∧ j < r.length then (match compL2 i j t e kvs [] ((r.set i .un).set j .un) with
    | .ok l r2 => .ok (.d (.lst l)) ((r2.set i (at_ r i)).set j (at_ r j))
    | _ => .bad) else .bad
@[simp] theorem eComp2_app (i j : Nat) (kvs : List (Txt × Txt)) (t e : EV) (r : Slots) : eComp2 i j kvs t e r = (if (plainA (at_ r i) ∧ i < r.length) ∧ plainA (at_ r j) ∧ j < r.length then (match compL2 i j t e kvs [] ((r.set i .un).set j .un) with
    | .ok l r2 => .ok (.d (.lst l)) ((r2.set i (at_ r i)).set j (at_ r j))
    | _ => .bad) else .bad) := rfl
end
end Sk

namespace SkS
open PySem PySem.Spec PyProof.Rows L2 Sk
section
variable {α : Type} {l : List α} {i j : Nat} {a b c d z : α}
theorem set2_back (h : i ≠ j) : (((((l.set i z).set j z).set i a).set j b).set i z).set j z = (l.set i z).set j z := by
  rw [List.set_comm _ _ (Ne.symm h) (l := ((l.set i z).set j z).set i a), List.set_set, List.set_set, List.set_comm _ _ (Ne.symm h) (l := l.set i z), List.set_set, List.set_set]
end
section
variable {g : Cxt} {tt : TT} {te : TE} {tv ev : EV} {i j : Nat} {kvs : List (Txt × Txt)}
theorem sem_comp2 (hij : i ≠ j) (hz : ∀ p ∈ kvs, p.1.length ≤ sizeLine ∧ p.2.length ≤ sizeLine) (mt : SemT g.cn (fun _ _ _ _ => False) tt (tst tv)) (me : SemE g.cn (fun _ _ _ _ => False) te ev) :
    SemL g.cn g.wx (tLc (iItK kvs) (gTup g.cn.K 2 (gCons (gName i) (gCons (gName j) gNil))) tt te [i, j]) (eComp2 i j kvs tv ev) := by
  intro σ r H W Q R h
  have wz : ∀ τ : L2.St, wipe τ [i, j] = (τ.set i none).set j none := fun τ => by
    first
      | rfl
      | (show (τ.set j none).set i none = _; exact List.set_comm _ _ (Ne.symm hij))
  show ∀ D, H D = none → _
  intro D hD
  unfold eComp2 at h
  by_cases hp : (plainA (at_ r i) = true ∧ i < r.length) ∧ plainA (at_ r j) = true ∧ j < r.length
  · rw [if_pos hp] at h
    cases qc : compL2 i j tv ev kvs [] ((r.set i .un).set j .un) with
    | bad => rw [qc] at h; exact False.elim h
    | exc n r2 => rw [qc] at h; exact False.elim h
    | ok L rEnd =>
      rw [qc] at h
      have t0 := Tr.new (c := g.cn) (W := W) (o := .lst []) (t := some .tmp) hD
      refine ⟨fun k m H' => ∃ W' r' acc vs, m = kvs.length - k ∧ k ≤ kvs.length ∧ Fr H W H' W' ∧ Rel g.cn H' W' ((σ.set i none).set j none) r' ∧ W' D = some .tmp ∧ H' D = some (.lst vs) ∧ Rps g.cn.K g.cn.T H' W' vs acc ∧ compL2 i j tv ev (kvs.drop k) acc r' = .ok L rEnd,
        ⟨kvs.length, setW W D (some .tmp), (r.set i .un).set j .un, [], [], by simp, Nat.zero_le _, t0.1, t0.2 _ _ R.setUn.setUn, setW_same, upd_same, .nil, qc⟩, ?_⟩
      rintro k m H2 ⟨W2, r2, acc, vs, rfl, hk, f2, R2, wD, hx, rx, hc⟩
      by_cases hlt : k < kvs.length
      · right
        have hd : kvs[k]? = some kvs[k] := List.getElem?_eq_getElem hlt
        refine ⟨hlt, fun H' => ∃ W' r' acc vs, Fr H W H' W' ∧ Rel g.cn H' W' ((σ.set i none).set j none) r' ∧ W' D = some .tmp ∧ H' D = some (.lst vs) ∧ Rps g.cn.K g.cn.T H' W' vs acc ∧ compL2 i j tv ev (kvs.drop (k + 1)) acc r' = .ok L rEnd,
          fun H' ⟨W', r', acc, vs, a1, a2, a3, a4, a5, a6⟩ => ⟨kvs.length - (k + 1), by omega, W', r', acc, vs, rfl, hlt, a1, a2, a3, a4, a5, a6⟩, fun y H3 hy => ?_⟩
        obtain ⟨T, p, hp2, rfl, hT, rfl⟩ := hy
        rw [hd] at hp2
        cases hp2
        have tT := Tr.new (c := g.cn) (W := W2) (o := .tup [.str (stxt kvs[k].1), .str (stxt kvs[k].2)]) (t := some .tmp) hT
        obtain ⟨z1, z2⟩ := hz kvs[k] (List.getElem_mem hlt)
        have R3 := (((tT.2 _ _ R2).setD (i := i) (.str kvs[k].1 z1)).setD (i := j) (.str kvs[k].2 z2))
        have f3 := f2.trans tT.1
        have wD3 := (tT.1.keep D _ hx (.inr (.inl wD)))
        have wT : setW W2 T (some .tmp) D = some .tmp := wD3.2.trans wD
        have rx3 : Rps g.cn.K g.cn.T _ (setW W2 T (some .tmp)) vs acc := rx.mv tT.1.mv
        refine ⟨T, _, rfl, .inl (.inl upd_same), rfl, .str (stxt kvs[k].1), _, rfl, .str (stxt kvs[k].2), _, rfl, rfl, ?_⟩
        refine ⟨?_, ?_⟩
        · rw [wz, wz]
          exact set2_back hij
        rw [wz]
        show tt ((((σ.set i none).set j none).set i (some (V.str (stxt kvs[k].1)))).set j (some (V.str (stxt kvs[k].2)))) _ _
        rw [List.drop_eq_getElem_cons hlt] at hc
        unfold compL2 at hc
        have back : ∀ {H' : Hp} {W' : Own} {r' : Slots}, Rel g.cn H' W' ((((σ.set i none).set j none).set i (some (V.str (stxt kvs[k].1)))).set j (some (V.str (stxt kvs[k].2)))) r' → Rel g.cn H' W' ((σ.set i none).set j none) ((r'.set i .un).set j .un) := fun R' => by
          have := (R'.setUn (i := i) (v := none)).setUn (i := j) (v := none)
          rw [set2_back hij] at this
          exact this
        refine mt _ _ _ (setW W2 T (some .tmp)) _ R3 ?_
        cases qt : tst tv ((r2.set i (.d (.str kvs[k].1))).set j (.d (.str kvs[k].2))) with
        | bad => rw [qt] at hc; cases hc
        | exc n r5 => rw [qt] at hc; cases hc
        | ok b r5 =>
          rw [qt] at hc
          intro H5 W5 f5 R5
          have wD5 := (f5.keep D _ wD3.1 (.inr (.inl wT)))
          cases b with
          | false => exact ⟨W5, (r5.set i .un).set j .un, acc, vs, f3.trans f5, back R5, wD5.2.trans wT, wD5.1, rx3.mv f5.mv, hc⟩
          | true =>
            rw [if_pos rfl]
            refine me _ r5 H5 W5 _ R5 ?_
            simp only at hc
            cases qe : ev r5 with
            | bad => rw [qe] at hc; cases hc
            | exc n r6 => rw [qe] at hc; cases hc
            | ok x r6 =>
              rw [qe] at hc
              cases x with
              | ref j => cases hc
              | d v =>
                simp only at hc
                split at hc
                · rename_i hz
                  intro u H6 W6 f6 R6 ru
                  have wD6 := f6.keep D _ wD5.1 (.inr (.inl (wD5.2.trans wT)))
                  have w6 : W6 D = some .tmp := wD6.2.trans (wD5.2.trans wT)
                  have rx6 : Rps g.cn.K g.cn.T H6 W6 vs acc := (rx3.mv f5.mv).mv f6.mv
                  refine ⟨vs, wD6.1, by rw [rx.len, ← line_eq]; exact hz, W6, (r6.set i .un).set j .un, acc ++ [v], vs ++ [u], ((f3.trans f5).trans f6).wrNew hD, (back R6).wrTmp w6 wD6.1, w6, upd_same, ?_, hc⟩
                  exact (rx6.app (.cons ru .nil)).mv (mv_tmp w6 wD6.1)
                · cases hc
      · left
        have hk' : kvs.length ≤ k := Nat.le_of_not_lt hlt
        rw [List.drop_eq_nil_of_le hk'] at hc
        cases hc
        refine ⟨hk', ?_⟩
        have hs : ∀ {m}, m < r.length → r[m]? = some (at_ r m) := fun {m} hm => by
          unfold at_
          rw [List.getElem?_eq_getElem hm]
          rfl
        have R4 : Rel g.cn H2 W2 ((σ.set j none).set i none) rEnd := by rw [List.set_comm _ _ (Ne.symm hij)]; exact R2
        have a1 := (R.slot i _ (hs hp.1.2)).plain f2.mv hp.1.1
        have a2 := (R.slot j _ (hs hp.2.2)).plain f2.mv hp.2.1
        have R5 := R4.unwipe (by rw [List.getElem?_set_ne (Ne.symm hij)]; exact a1)
        exact h _ rfl D vs H2 W2 f2 (R5.unwipe a2) wD hD hx rx
  · rw [if_neg hp] at h; exact False.elim h
theorem eComp2_lst : ∀ r x r', eComp2 i j kvs tv ev r = .ok x r' → ∃ l, x = .d (.lst l) := by
  intro r x r' h
  unfold eComp2 at h
  split at h
  · split at h
    · cases h; exact ⟨_, rfl⟩
    · cases h
  · cases h
variable {bs : Scope}
theorem sl_comp2 {x y z : Str} {elt : Expr} {ifs : List Expr} {kt : Nat} {p p2 p3 pt apos cpos pos : Pos} (hB : g.B) (hR : g.R) (C : DicC g z kvs) (hg : g.sc.names.lookup z = some .globalImplicit) (hN : g.N[i]? = some x) (hN2 : g.N[j]? = some y) (ok : blkC g.N g.sc bs [(x, i), (y, j)] = true) (hl : (relS bs g.sc).names.lookup x = some .local) (hl2 : (relS bs g.sc).names.lookup y = some .local)
    (ht : SFs (g.blk bs) ifs tv) (he : SE (g.blk bs) elt ev) (hij : i ≠ j := by decide) (hz : ∀ p ∈ kvs, p.1.length ≤ 16777216 ∧ p.2.length ≤ 16777216 := by decide) (nd : (kvs.map (fun p => stxt p.1)).Nodup := by decide) (hd : (z == ("__debug__" : Str)) = false := by decide)
    (hbase : ∀ X, g.XP X → attributeBase (.Name z p3) "items" X.env (eval (.Name z p3) X.env) = eval (.Name z p3) X.env := by intros; rfl) (hline : (apos.endLine == cpos.line) = true := by rfl)
    (hs : ∀ X, g.XP X → ∀ y, foldedSetIterable (.Call (.Attribute (.Name z p3) "items" apos) [] [] cpos) X.env y = pure y := by intros; rfl) :
    SL g (.ListComp elt [⟨.Tuple [.Name x p, .Name y p2] kt pt, .Call (.Attribute (.Name z p3) "items" apos) [] [] cpos, ifs, 0⟩] bs pos) (eComp2 i j kvs tv ev) := by
  obtain ⟨ad, es, n, hm0, D, hb, _⟩ := C.ex
  obtain ⟨tt, pt, mt⟩ := ht
  obtain ⟨te, pe, me⟩ := he
  refine ⟨_, fun X hx => ?_, sem_comp2 (tt := tt) (te := te) hij (fun p hp => by rw [sizeLine_eq]; exact hz p hp) mt me, eComp2_lst⟩
  have B := hB X hx
  have okB : BlkOk X.N X.env.scope bs [(x, i), (y, j)] := by rw [B.N, B.sc]; exact blkOk_by ok
  have pn : PE X (.Name z p3) (tC (.ref ad)) := pe_glob (hB.gl hg X hx) (by rw [B.mg]; exact hm0) rfl hd
  have l1 : (relS bs X.env.scope).names.lookup x = some .local := by rw [B.sc]; exact hl
  have l2 : (relS bs X.env.scope).names.lookup y = some .local := by rw [B.sc]; exact hl2
  rw [← B.K]
  refine pe_lc (own := [(x, i), (y, j)]) (hR X hx).calm (by rw [B.N]; exact B.nd) (pi_itemsK pn (by rw [B.K, B.w]; exact D) hb nd (hbase X hx) hline) okB (fun s H C cl fp => ?_) (fun s H C cl fp => pt _ ⟨X, hx, s, H, C, cl, fp, rfl⟩) (fun s H C cl fp => pe _ ⟨X, hx, s, H, C, cl, fp, rfl⟩) (hs X hx)
  exact pg_tup (X := X.blk s H bs (compEnvC bs cl C X.env) fp) (hR X hx).calm (pgs_cons (pg_name (X := X.blk s H bs (compEnvC bs cl C X.env) fp) (by show X.N.Nodup; rw [B.N]; exact B.nd) (by show X.N[i]? = _; rw [B.N]; exact hN) (.inl l1) (.inr l1)) (pgs_cons (pg_name (X := X.blk s H bs (compEnvC bs cl C X.env) fp) (by show X.N.Nodup; rw [B.N]; exact B.nd) (by show X.N[j]? = _; rw [B.N]; exact hN2) (.inl l2) (.inr l2)) pgs_nil))
/-- name = [..] on one line -/
theorem s_ownComp2 {m : Nat} {x y z w : Str} {elt : Expr} {ifs : List Expr} {kt : Nat} {p p2 p3 p4 pt apos cpos pos spos : Pos} (hB : g.B) (hR : g.R) (C : DicC g z kvs) (hg : g.sc.names.lookup z = some .globalImplicit) (hN : g.N[i]? = some x) (hN2 : g.N[j]? = some y) (hN3 : g.N[m]? = some w) (hwl : g.sc.names.lookup w = some .local) (ok : blkC g.N g.sc bs [(x, i), (y, j)] = true) (hl : (relS bs g.sc).names.lookup x = some .local) (hl2 : (relS bs g.sc).names.lookup y = some .local)
    (hsw : ∀ X, g.XP X → swapsWith (.ListComp elt [⟨.Tuple [.Name x p, .Name y p2] kt pt, .Call (.Attribute (.Name z p3) "items" apos) [] [] cpos, ifs, 0⟩] bs pos) (some (.Name w p4)) spos.line X.env = pure true)
    (ht : SFs (g.blk bs) ifs tv) (he : SE (g.blk bs) elt ev) (hij : i ≠ j := by decide) (hz : ∀ p ∈ kvs, p.1.length ≤ 16777216 ∧ p.2.length ≤ 16777216 := by decide) (nd : (kvs.map (fun p => stxt p.1)).Nodup := by decide) (hd : (z == ("__debug__" : Str)) = false := by decide)
    (hbase : ∀ X, g.XP X → attributeBase (.Name z p3) "items" X.env (eval (.Name z p3) X.env) = eval (.Name z p3) X.env := by intros; rfl) (hline : (apos.endLine == cpos.line) = true := by rfl)
    (hs : ∀ X, g.XP X → ∀ y, foldedSetIterable (.Call (.Attribute (.Name z p3) "items" apos) [] [] cpos) X.env y = pure y := by intros; rfl) :
    SS g (.Assign [.Name w p4] (.ListComp elt [⟨.Tuple [.Name x p, .Name y p2] kt pt, .Call (.Attribute (.Name z p3) "items" apos) [] [] cpos, ifs, 0⟩] bs pos) spos) (sOwn m (eComp2 i j kvs tv ev)) := by
  obtain ⟨ad, es, n, hm0, D, hb, _⟩ := C.ex
  obtain ⟨tt, pt, mt⟩ := ht
  obtain ⟨te, pe, me⟩ := he
  have sc := sem_comp2 (g := g) (i := i) (j := j) (tt := tt) (te := te) hij (fun p hp => by rw [sizeLine_eq]; exact hz p hp) mt me
  refine ⟨tAsg (tLc (iItK kvs) (gTup g.cn.K 2 (gCons (gName i) (gCons (gName j) gNil))) tt te [i, j]) (gName m), fun X hx => ?_, fun σ r H W D R h => ?_⟩
  · have B := hB X hx
    have okB : BlkOk X.N X.env.scope bs [(x, i), (y, j)] := by rw [B.N, B.sc]; exact blkOk_by ok
    have pn : PE X (.Name z p3) (tC (.ref ad)) := pe_glob (hB.gl hg X hx) (by rw [B.mg]; exact hm0) rfl hd
    have l1 : (relS bs X.env.scope).names.lookup x = some .local := by rw [B.sc]; exact hl
    have l2 : (relS bs X.env.scope).names.lookup y = some .local := by rw [B.sc]; exact hl2
    rw [← B.K]
    refine ps_setLc (own := [(x, i), (y, j)]) (hR X hx).calm (by rw [B.N]; exact B.nd) (by rw [B.N]; exact hN3) (by rw [B.sc]; exact hwl) (hsw X hx) (pi_itemsK pn (by rw [B.K, B.w]; exact D) hb nd (hbase X hx) hline) okB (fun s H C cl fp => ?_) (fun s H C cl fp => pt _ ⟨X, hx, s, H, C, cl, fp, rfl⟩) (fun s H C cl fp => pe _ ⟨X, hx, s, H, C, cl, fp, rfl⟩) (hs X hx)
    exact pg_tup (X := X.blk s H bs (compEnvC bs cl C X.env) fp) (hR X hx).calm (pgs_cons (pg_name (X := X.blk s H bs (compEnvC bs cl C X.env) fp) (by show X.N.Nodup; rw [B.N]; exact B.nd) (by show X.N[i]? = _; rw [B.N]; exact hN) (.inl l1) (.inr l1)) (pgs_cons (pg_name (X := X.blk s H bs (compEnvC bs cl C X.env) fp) (by show X.N.Nodup; rw [B.N]; exact B.nd) (by show X.N[j]? = _; rw [B.N]; exact hN2) (.inl l2) (.inr l2)) pgs_nil))
  · refine outL (Q := fun v H1 => gName m v σ H1 D.nx) sc R h fun l r1 ad xs H1 W1 f1 R1 wt n hx rx h1 => ?_
    obtain ⟨hi, h2⟩ := store_nx h1
    have h0 : g.cn.H0 ad = none := by
      cases q : g.cn.H0 ad with
      | none => rfl
      | some u => exact absurd n (R.old ad (by rw [q]; exact fun z => by cases z)).1
    exact h2 _ H1 _ (f1.newTag n) (R1.take wt hx rx h0 hi)
end
end SkS

namespace HT
open Sk
noncomputable section
abbrev i_parts_of : Nat := 0
abbrev i_groups_in : Nat := 1
abbrev i_sign_text : Nat := 2
abbrev i_runs_text : Nat := 3
abbrev i_times_text : Nat := 4
abbrev i_row_text : Nat := 5
abbrev i_pattern_text : Nat := 6
abbrev i_Reader___init__ : Nat := 7
abbrev i_Reader_ahead : Nat := 8
abbrev i_Reader_take : Nat := 9
abbrev i_Reader_want : Nat := 10
abbrev i_Reader_figure : Nat := 11
abbrev i_Reader_whole : Nat := 12
abbrev i_Reader_branch : Nat := 13
abbrev i_Reader_turned : Nat := 14
abbrev i_Reader_one : Nat := 15
abbrev i_Reader_bracket : Nat := 16
abbrev i_Reader_signs : Nat := 17
abbrev i_Reader_within : Nat := 18
abbrev i_look_at : Nat := 19
abbrev i_read_pattern : Nat := 20
abbrev i_law_take : Nat := 21
abbrev i_law_sign : Nat := 22
abbrev i_law_letters : Nat := 23
abbrev i_law_runs : Nat := 24
abbrev i_law_leaf : Nat := 25
abbrev i_law_parts : Nat := 26
abbrev i_law_times : Nat := 27
abbrev i_law_pattern : Nat := 28
abbrev i_law_drawn : Nat := 29
abbrev i_law_nested : Nat := 30
abbrev i_law_wide : Nat := 31
abbrev i_law_many_groups : Nat := 32
abbrev i_law_signed : Nat := 33
abbrev i_law_run_text : Nat := 34
abbrev i_law_inner : Nat := 35
abbrev i_law_leaf_text : Nat := 36
abbrev i_law_written : Nat := 37
abbrev i_law_parts_of : Nat := 38
abbrev i_law_text_like : Nat := 39
abbrev i_law_number : Nat := 40
abbrev i_law_good_runs : Nat := 41
abbrev i_law_good_turns : Nat := 42
abbrev i_law_good_head : Nat := 43
abbrev i_law_size : Nat := 44
abbrev i_law_good : Nat := 45
abbrev i_law_refused : Nat := 46
abbrev i_law_beyond : Nat := 47
abbrev i_law_spoilt : Nat := 48
abbrev i_law_line : Nat := 49
abbrev i_law : Nat := 50
/-- parts_of(pattern, word) -/
def c_parts_of (S S' : Nat → FSem) : SV := sSeq (sSet 1 (eOp opItemS (eVar 0) (eC (.int 0)))) <| sSeq (sIf (eOr (eOp opEq (eVar 1) (eC (.str [114, 111, 119]))) (eOp opEq (eVar 1) (eC (.str [111, 114])))) (sRetL (eOp1 opList (eOp opItemS (eVar 0) (eC (.int 1))))) (sNext)) <| sSeq (sIf (eOp opEq (eVar 1) (eC (.str [116, 105, 109, 101, 115]))) (sRetL (eLst (aCons (eOp opItemS (eVar 0) (eC (.int 4))) aNil))) (sNext)) <| sSeq (sIf (eOp opEq (eVar 1) (eC (.str [103, 114, 111, 117, 112]))) (sRetL (eLst (aCons (eOp opItemS (eVar 0) (eC (.int 2))) aNil))) (sNext)) <| sSeq (sIf (eOp opEq (eVar 1) (eC (.str [104, 97, 118, 101]))) (sRetL (eLst (aCons (eOp opItemS (eVar 0) (eC (.int 2))) (aCons (eOp opItemS (eVar 0) (eC (.int 3))) aNil)))) (sNext)) <| sSeq (sIf (eAnd (eOp opInS (eVar 1) (eC (.tup [.str [97, 103, 97, 105, 110], .str [104, 97, 118, 101], .str [111, 110, 99, 101], .str [97, 104, 101, 97, 100], .str [110, 111, 116, 97, 104, 101, 97, 100], .str [98, 101, 104, 105, 110, 100], .str [110, 111, 116, 98, 101, 104, 105, 110, 100]]))) (eOp opNe (eVar 1) (eC (.str [97, 103, 97, 105, 110])))) (sRetL (eLst (aCons (eOp opItemS (eVar 0) (eC (.int 1))) aNil))) (sNext)) <| sRetL (eLst (aNil))
def l_groups_in_1 (S S' : Nat → FSem) : SV := sSet 1 (eOp opAdd (eVar 1) (eCall (S i_groups_in) (aCons (eVar 2) aNil)))
/-- groups_in(pattern, many, part) -/
def c_groups_in (S S' : Nat → FSem) : SV := sSeq (sSet 1 (eOp1 opInt (eOp opEq (eOp opItemS (eVar 0) (eC (.int 0))) (eC (.str [103, 114, 111, 117, 112]))))) <| sSeq (sFor 2 (iVal (eCall (S i_parts_of) (aCons (eVar 0) aNil))) (l_groups_in_1 S S')) <| sRet (eVar 1)
/-- sign_text(sign, special) -/
def c_sign_text (S S' : Nat → FSem) : SV := sSeq (sIf (eOp opInS (eVar 0) (eVar 1)) (sRet (eOp opAdd (eC (.str [92])) (eVar 0))) (sNext)) <| sRet (eVar 0)
def l_runs_text_1 (S S' : Nat → FSem) : SV := sSeq (sSet 1 (eOp opAdd (eVar 1) (eCall (S i_sign_text) (aCons (eOp opItemS (eVar 2) (eC (.int 0))) (aCons (eC (.str [92, 91, 93, 94, 45])) aNil))))) <| sIf (eOp opNe (eOp opItemS (eVar 2) (eC (.int 0))) (eOp opItemS (eVar 2) (eC (.int 1)))) (sSet 1 (eOp opAdd (eOp opAdd (eVar 1) (eC (.str [45]))) (eCall (S i_sign_text) (aCons (eOp opItemS (eVar 2) (eC (.int 1))) (aCons (eC (.str [92, 91, 93, 94, 45])) aNil))))) (sNext)
/-- runs_text(runs, found, run) -/
def c_runs_text (S S' : Nat → FSem) : SV := sSeq (sSet 1 (eC (.str []))) <| sSeq (sFor 2 (iVal (eVar 0)) (l_runs_text_1 S S')) <| sRet (eVar 1)
/-- times_text(pattern, part, high, how) -/
def c_times_text (S S' : Nat → FSem) : SV := sSeq (sSet 1 (eCall (S i_pattern_text) (aCons (eOp opItemS (eVar 0) (eC (.int 4))) aNil))) <| sSeq (sIf (eOp opInS (eOp opItemS (eOp opItemS (eVar 0) (eC (.int 4))) (eC (.int 0))) (eTup (aCons (eC (.str [114, 111, 119])) (aCons (eC (.str [111, 114])) (aCons (eC (.str [116, 105, 109, 101, 115])) aNil))))) (sSet 1 (eOp opAdd (eOp opAdd (eC (.str [60, 58])) (eVar 1)) (eC (.str [62])))) (sNext)) <| sSeq (sSet 2 (eC (.str []))) <| sSeq (sIf (eOp1 opNotN (eOp opItemS (eVar 0) (eC (.int 2)))) (sSet 2 (eOp1 opStr (eOp opItemS (eVar 0) (eC (.int 2))))) (sNext)) <| sSeq (sSet 3 (eOp opItemD (eC (.dic [([109, 117, 99, 104], .str []), ([108, 105, 116, 116, 108, 101], .str [63]), ([107, 101, 101, 112], .str [33])])) (eOp opItemS (eVar 0) (eC (.int 3))))) <| sRet (eOp opAdd (eOp opAdd (eOp opAdd (eOp opAdd (eOp opAdd (eOp opAdd (eVar 1) (eC (.str [123]))) (eOp1 opStr (eOp opItemS (eVar 0) (eC (.int 1))))) (eC (.str [44]))) (eVar 2)) (eVar 3)) (eC (.str [125])))
def l_row_text_1 (S S' : Nat → FSem) : SV := sSeq (sSet 3 (eCall (S i_pattern_text) (aCons (eVar 2) aNil))) <| sSeq (sIf (eOp opEq (eOp opItemS (eVar 2) (eC (.int 0))) (eC (.str [111, 114]))) (sSet 3 (eOp opAdd (eOp opAdd (eC (.str [60, 58])) (eVar 3)) (eC (.str [62])))) (sNext)) <| sSet 1 (eOp opAdd (eVar 1) (eVar 3))
/-- row_text(parts, found, part, told) -/
def c_row_text (S S' : Nat → FSem) : SV := sSeq (sSet 1 (eC (.str []))) <| sSeq (sFor 2 (iVal (eVar 0)) (l_row_text_1 S S')) <| sRet (eVar 1)
/-- pattern_text(pattern, word, part) -/
def c_pattern_text (S S' : Nat → FSem) : SV := sSeq (sSet 1 (eOp opItemS (eVar 0) (eC (.int 0)))) <| sSeq (sIf (eOp opEq (eVar 1) (eC (.str [115, 105, 103, 110]))) (sRet (eCall (S i_sign_text) (aCons (eOp opItemS (eVar 0) (eC (.int 1))) (aCons (eC (.str [92, 46, 91, 93, 40, 41, 123, 125, 60, 62, 124, 94, 36, 38, 126])) aNil)))) (sNext)) <| sSeq (sIf (eOp opEq (eVar 1) (eC (.str [97, 110, 121]))) (sRet (eC (.str [46]))) (sNext)) <| sSeq (sIf (eOp opEq (eVar 1) (eC (.str [105, 110]))) (sRet (eOp opAdd (eOp opAdd (eC (.str [91])) (eCall (S i_runs_text) (aCons (eOp opItemS (eVar 0) (eC (.int 1))) aNil))) (eC (.str [93])))) (sNext)) <| sSeq (sIf (eOp opEq (eVar 1) (eC (.str [111, 117, 116]))) (sRet (eOp opAdd (eOp opAdd (eC (.str [91, 94])) (eCall (S i_runs_text) (aCons (eOp opItemS (eVar 0) (eC (.int 1))) aNil))) (eC (.str [93])))) (sNext)) <| sSeq (sIf (eOp opEq (eVar 1) (eC (.str [98, 101, 103, 105, 110]))) (sRet (eC (.str [94]))) (sNext)) <| sSeq (sIf (eOp opEq (eVar 1) (eC (.str [101, 110, 100]))) (sRet (eC (.str [36]))) (sNext)) <| sSeq (sIf (eOp opEq (eVar 1) (eC (.str [97, 103, 97, 105, 110]))) (sRet (eOp opAdd (eC (.str [38])) (eOp1 opStr (eOp opItemS (eVar 0) (eC (.int 1)))))) (sNext)) <| sSeq (sIf (eOp opEq (eVar 1) (eC (.str [114, 111, 119]))) (sRet (eCall (S i_row_text) (aCons (eOp opItemS (eVar 0) (eC (.int 1))) aNil))) (sNext)) <| sSeq (sIf (eOp opEq (eVar 1) (eC (.str [111, 114]))) (sRet (eOp1 (opJoin [124]) (eComp 2 (iVal (eOp opItemS (eVar 0) (eC (.int 1)))) (eTrue) (eCall (S i_pattern_text) (aCons (eVar 2) aNil))))) (sNext)) <| sSeq (sIf (eOp opEq (eVar 1) (eC (.str [116, 105, 109, 101, 115]))) (sRet (eCall (S i_times_text) (aCons (eVar 0) aNil))) (sNext)) <| sSeq (sIf (eOp opEq (eVar 1) (eC (.str [103, 114, 111, 117, 112]))) (sRet (eOp opAdd (eOp opAdd (eC (.str [40])) (eCall (S i_pattern_text) (aCons (eOp opItemS (eVar 0) (eC (.int 2))) aNil))) (eC (.str [41])))) (sNext)) <| sSeq (sIf (eOp opEq (eVar 1) (eC (.str [104, 97, 118, 101]))) (sRet (eOp opAdd (eOp opAdd (eOp opAdd (eOp opAdd (eOp opAdd (eC (.str [60])) (eOp1 opStr (eOp opItemS (eVar 0) (eC (.int 1))))) (eCall (S i_pattern_text) (aCons (eOp opItemS (eVar 0) (eC (.int 2))) aNil))) (eC (.str [126]))) (eCall (S i_pattern_text) (aCons (eOp opItemS (eVar 0) (eC (.int 3))) aNil))) (eC (.str [62])))) (sNext)) <| sRet (eOp opAdd (eOp opAdd (eOp opAdd (eC (.str [60])) (eOp opItemD (eC (.dic [([111, 110, 99, 101], .str [33]), ([97, 104, 101, 97, 100], .str [43]), ([110, 111, 116, 97, 104, 101, 97, 100], .str [45]), ([98, 101, 104, 105, 110, 100], .str [42]), ([110, 111, 116, 98, 101, 104, 105, 110, 100], .str [47])])) (eVar 1))) (eCall (S i_pattern_text) (aCons (eOp opItemS (eVar 0) (eC (.int 1))) aNil))) (eC (.str [62])))
/-- Reader.__init__(self, text) -/
def c_Reader___init__ (S S' : Nat → FSem) : SV := sSeq (Sk.sFld "Reader" 0 "text" (eVar 1)) <| sSeq (Sk.sFld "Reader" 0 "at" (eC (.int 0))) <| Sk.sFld "Reader" 0 "groups" (eC (.int 0))
/-- Reader.ahead(self) -/
def c_Reader_ahead (S S' : Nat → FSem) : SV := sRet (eSlice (eFld "Reader" (eVar 0) "text") (pSome (eFld "Reader" (eVar 0) "at")) (pSome (eOp opAdd (eFld "Reader" (eVar 0) "at") (eC (.int 1)))))
/-- Reader.take(self, sign) -/
def c_Reader_take (S S' : Nat → FSem) : SV := sSeq (sSet 1 (eMeth "Reader" "ahead" (S i_Reader_ahead) (eVar 0) aNil)) <| sSeq (sIf (eOp opEq (eVar 1) (eC (.str []))) (sRaise "Unread") (sNext)) <| sSeq (Sk.sFld "Reader" 0 "at" (eOp opAdd (eFld "Reader" (eVar 0) "at") (eC (.int 1)))) <| sRet (eVar 1)
/-- Reader.want(self, sign) -/
def c_Reader_want (S S' : Nat → FSem) : SV := sIf (eOp opNe (eMeth "Reader" "take" (S i_Reader_take) (eVar 0) aNil) (eVar 1)) (sRaise "Unread") (sNext)
/-- Reader.figure(self, sign) -/
def c_Reader_figure (S S' : Nat → FSem) : SV := sSeq (sSet 1 (eMeth "Reader" "take" (S i_Reader_take) (eVar 0) aNil)) <| sSeq (sIf (eOp opNinS (eVar 1) (eC (.str [48, 49, 50, 51, 52, 53, 54, 55, 56, 57]))) (sRaise "Unread") (sNext)) <| sRet (eOp1 opInt (eVar 1))
def l_Reader_whole_1 (S S' : Nat → FSem) : SV := sSeq (Sk.sFld "Reader" 0 "at" (eOp opAdd (eFld "Reader" (eVar 0) "at") (eC (.int 1)))) <| sExpr (eAppend 2 (eMeth "Reader" "branch" (S i_Reader_branch) (eVar 0) (aCons (eVar 1) aNil)))
/-- Reader.whole(self, nest, branches) -/
def c_Reader_whole (S S' : Nat → FSem) : SV := sSeq (sIf (eOp opGt (eVar 1) (eOp opMul (eC (.int 2)) (eC (.int 8)))) (sRaise "Unread") (sNext)) <| sSeq (sOwn 2 (eLst (aCons (eMeth "Reader" "branch" (S i_Reader_branch) (eVar 0) (aCons (eVar 1) aNil)) aNil))) <| sSeq (sWhile (eOp opEq (eMeth "Reader" "ahead" (S i_Reader_ahead) (eVar 0) aNil) (eC (.str [124]))) (l_Reader_whole_1 S S')) <| sSeq (sIf (eOp opEq (eOp1 opLen (eVar 2)) (eC (.int 1))) (sRet (eOp opItemS (eVar 2) (eC (.int 0)))) (sNext)) <| sRet (eTup (aCons (eC (.str [111, 114])) (aCons (eOp1 opTuple (eVar 2)) aNil)))
def l_Reader_branch_1 (S S' : Nat → FSem) : SV := sExpr (eAppend 2 (eMeth "Reader" "turned" (S i_Reader_turned) (eVar 0) (aCons (eMeth "Reader" "one" (S i_Reader_one) (eVar 0) (aCons (eVar 1) aNil)) aNil)))
/-- Reader.branch(self, nest, parts) -/
def c_Reader_branch (S S' : Nat → FSem) : SV := sSeq (sOwn 2 (eLst (aNil))) <| sSeq (sWhile (eAnd (eOp opNe (eMeth "Reader" "ahead" (S i_Reader_ahead) (eVar 0) aNil) (eC (.str []))) (eOp opNinS (eMeth "Reader" "ahead" (S i_Reader_ahead) (eVar 0) aNil) (eC (.str [124, 41, 62, 126])))) (l_Reader_branch_1 S S')) <| sSeq (sIf (eOp opEq (eOp1 opLen (eVar 2)) (eC (.int 1))) (sRet (eOp opItemS (eVar 2) (eC (.int 0)))) (sNext)) <| sRet (eTup (aCons (eC (.str [114, 111, 119])) (aCons (eOp1 opTuple (eVar 2)) aNil)))
/-- Reader.turned(self, part, low, high, how) -/
def c_Reader_turned (S S' : Nat → FSem) : SV := sSeq (sIf (eOp opEq (eMeth "Reader" "ahead" (S i_Reader_ahead) (eVar 0) aNil) (eC (.str [123]))) (sSeq (Sk.sFld "Reader" 0 "at" (eOp opAdd (eFld "Reader" (eVar 0) "at") (eC (.int 1)))) <| sSeq (sSet 2 (eMeth "Reader" "figure" (S i_Reader_figure) (eVar 0) aNil)) <| sSeq (sExpr (eMeth "Reader" "want" (S i_Reader_want) (eVar 0) (aCons (eC (.str [44])) aNil))) <| sSeq (sSet 3 (eC .non)) <| sSeq (sIf (eAnd (eOp opNe (eMeth "Reader" "ahead" (S i_Reader_ahead) (eVar 0) aNil) (eC (.str []))) (eOp opInS (eMeth "Reader" "ahead" (S i_Reader_ahead) (eVar 0) aNil) (eC (.str [48, 49, 50, 51, 52, 53, 54, 55, 56, 57])))) (sSet 3 (eMeth "Reader" "figure" (S i_Reader_figure) (eVar 0) aNil)) (sNext)) <| sSeq (sSet 4 (eC (.str [109, 117, 99, 104]))) <| sSeq (sIf (eOp opEq (eMeth "Reader" "ahead" (S i_Reader_ahead) (eVar 0) aNil) (eC (.str [63]))) (sSet 4 (eC (.str [108, 105, 116, 116, 108, 101]))) (sNext)) <| sSeq (sIf (eOp opEq (eMeth "Reader" "ahead" (S i_Reader_ahead) (eVar 0) aNil) (eC (.str [33]))) (sSet 4 (eC (.str [107, 101, 101, 112]))) (sNext)) <| sSeq (sIf (eOp opNe (eVar 4) (eC (.str [109, 117, 99, 104]))) (Sk.sFld "Reader" 0 "at" (eOp opAdd (eFld "Reader" (eVar 0) "at") (eC (.int 1)))) (sNext)) <| sSeq (sExpr (eMeth "Reader" "want" (S i_Reader_want) (eVar 0) (aCons (eC (.str [125])) aNil))) <| sSeq (sIf (eAnd (eOp1 opNotN (eVar 3)) (eOr (eOp opLt (eVar 3) (eVar 2)) (eOp opEq (eVar 3) (eC (.int 0))))) (sRaise "Unread") (sNext)) <| sSet 1 (eTup (aCons (eC (.str [116, 105, 109, 101, 115])) (aCons (eVar 2) (aCons (eVar 3) (aCons (eVar 4) (aCons (eVar 1) aNil))))))) (sNext)) <| sRet (eVar 1)
/-- Reader.one(self, nest, sign, number, part, words) -/
def c_Reader_one (S S' : Nat → FSem) : SV := sSeq (sSet 2 (eMeth "Reader" "take" (S i_Reader_take) (eVar 0) aNil)) <| sSeq (sIf (eOp opEq (eVar 2) (eC (.str [40]))) (sSeq (Sk.sFld "Reader" 0 "groups" (eOp opAdd (eFld "Reader" (eVar 0) "groups") (eC (.int 1)))) <| sSeq (sSet 3 (eFld "Reader" (eVar 0) "groups")) <| sSeq (sSet 4 (eMeth "Reader" "whole" (S i_Reader_whole) (eVar 0) (aCons (eOp opAdd (eVar 1) (eC (.int 1))) aNil))) <| sSeq (sExpr (eMeth "Reader" "want" (S i_Reader_want) (eVar 0) (aCons (eC (.str [41])) aNil))) <| sRet (eTup (aCons (eC (.str [103, 114, 111, 117, 112])) (aCons (eVar 3) (aCons (eVar 4) aNil))))) (sNext)) <| sSeq (sIf (eOp opEq (eVar 2) (eC (.str [60]))) (sRet (eMeth "Reader" "bracket" (S i_Reader_bracket) (eVar 0) (aCons (eVar 1) aNil))) (sNext)) <| sSeq (sIf (eOp opEq (eVar 2) (eC (.str [91]))) (sRet (eMeth "Reader" "signs" (S i_Reader_signs) (eVar 0) aNil)) (sNext)) <| sSeq (sIf (eOp opEq (eVar 2) (eC (.str [38]))) (sRet (eTup (aCons (eC (.str [97, 103, 97, 105, 110])) (aCons (eMeth "Reader" "figure" (S i_Reader_figure) (eVar 0) aNil) aNil)))) (sNext)) <| sSeq (sSet 5 (eC (.dic [([46], .str [97, 110, 121]), ([94], .str [98, 101, 103, 105, 110]), ([36], .str [101, 110, 100])]))) <| sSeq (sIf (eOp opInD (eVar 2) (eVar 5)) (sRet (eTup (aCons (eOp opItemD (eVar 5) (eVar 2)) aNil))) (sNext)) <| sSeq (sIf (eOp opEq (eVar 2) (eC (.str [92]))) (sSeq (sSet 2 (eMeth "Reader" "take" (S i_Reader_take) (eVar 0) aNil)) <| sIf (eOp opNinS (eVar 2) (eC (.str [92, 46, 91, 93, 40, 41, 123, 125, 60, 62, 124, 94, 36, 38, 126]))) (sRaise "Unread") (sNext)) (sIf (eOp opInS (eVar 2) (eC (.str [92, 46, 91, 93, 40, 41, 123, 125, 60, 62, 124, 94, 36, 38, 126]))) (sRaise "Unread") (sNext))) <| sRet (eTup (aCons (eC (.str [115, 105, 103, 110])) (aCons (eVar 2) aNil)))
/-- Reader.bracket(self, nest, sign, part, words, word, one) -/
def c_Reader_bracket (S S' : Nat → FSem) : SV := sSeq (sSet 2 (eMeth "Reader" "take" (S i_Reader_take) (eVar 0) aNil)) <| sSeq (sSet 3 (eMeth "Reader" "whole" (S i_Reader_whole) (eVar 0) (aCons (eOp opAdd (eVar 1) (eC (.int 1))) aNil))) <| sSeq (sIf (eOp opInS (eVar 2) (eC (.str [48, 49, 50, 51, 52, 53, 54, 55, 56, 57]))) (sSeq (sExpr (eMeth "Reader" "want" (S i_Reader_want) (eVar 0) (aCons (eC (.str [126])) aNil))) <| sSet 3 (eTup (aCons (eC (.str [104, 97, 118, 101])) (aCons (eOp1 opInt (eVar 2)) (aCons (eVar 3) (aCons (eMeth "Reader" "whole" (S i_Reader_whole) (eVar 0) (aCons (eOp opAdd (eVar 1) (eC (.int 1))) aNil)) aNil)))))) (sIf (eOp opNe (eVar 2) (eC (.str [58]))) (sSeq (sOwn 4 (eComp2 5 6 [([111, 110, 99, 101], [33]), ([97, 104, 101, 97, 100], [43]), ([110, 111, 116, 97, 104, 101, 97, 100], [45]), ([98, 101, 104, 105, 110, 100], [42]), ([110, 111, 116, 98, 101, 104, 105, 110, 100], [47])] (eOp opEq (eVar 6) (eVar 2)) (eVar 5))) <| sSeq (sIf (eOp opEq (eVar 4) (eLst (aNil))) (sRaise "Unread") (sNext)) <| sSet 3 (eTup (aCons (eOp opItemS (eVar 4) (eC (.int 0))) (aCons (eVar 3) aNil)))) (sNext))) <| sSeq (sExpr (eMeth "Reader" "want" (S i_Reader_want) (eVar 0) (aCons (eC (.str [62])) aNil))) <| sRet (eVar 3)
def l_Reader_signs_1 (S S' : Nat → FSem) : SV := sSeq (sSet 3 (eMeth "Reader" "within" (S i_Reader_within) (eVar 0) aNil)) <| sSeq (sSet 4 (eVar 3)) <| sSeq (sIf (eOp opEq (eMeth "Reader" "ahead" (S i_Reader_ahead) (eVar 0) aNil) (eC (.str [45]))) (sSeq (Sk.sFld "Reader" 0 "at" (eOp opAdd (eFld "Reader" (eVar 0) "at") (eC (.int 1)))) <| sSet 4 (eMeth "Reader" "within" (S i_Reader_within) (eVar 0) aNil)) (sNext)) <| sExpr (eAppend 2 (eTup (aCons (eVar 3) (aCons (eVar 4) aNil))))
/-- Reader.signs(self, word, runs, low, high) -/
def c_Reader_signs (S S' : Nat → FSem) : SV := sSeq (sSet 1 (eC (.str [105, 110]))) <| sSeq (sIf (eOp opEq (eMeth "Reader" "ahead" (S i_Reader_ahead) (eVar 0) aNil) (eC (.str [94]))) (sSeq (sSet 1 (eC (.str [111, 117, 116]))) <| Sk.sFld "Reader" 0 "at" (eOp opAdd (eFld "Reader" (eVar 0) "at") (eC (.int 1)))) (sNext)) <| sSeq (sOwn 2 (eLst (aNil))) <| sSeq (sWhile (eOp opNe (eMeth "Reader" "ahead" (S i_Reader_ahead) (eVar 0) aNil) (eC (.str [93]))) (l_Reader_signs_1 S S')) <| sSeq (Sk.sFld "Reader" 0 "at" (eOp opAdd (eFld "Reader" (eVar 0) "at") (eC (.int 1)))) <| sRet (eTup (aCons (eVar 1) (aCons (eOp1 opTuple (eVar 2)) aNil)))
/-- Reader.within(self, sign) -/
def c_Reader_within (S S' : Nat → FSem) : SV := sSeq (sSet 1 (eMeth "Reader" "take" (S i_Reader_take) (eVar 0) aNil)) <| sSeq (sIf (eOp opEq (eVar 1) (eC (.str [92]))) (sSeq (sSet 1 (eMeth "Reader" "take" (S i_Reader_take) (eVar 0) aNil)) <| sIf (eOp opNinS (eVar 1) (eC (.str [92, 91, 93, 94, 45]))) (sRaise "Unread") (sNext)) (sIf (eOp opInS (eVar 1) (eC (.str [92, 91, 93, 94, 45]))) (sRaise "Unread") (sNext))) <| sRet (eVar 1)
def l_look_at_1 (S S' : Nat → FSem) : SV := sIf (eOp opGt (eOp1 opOrd (eOp opItemS (eVar 5) (eC (.int 0)))) (eOp1 opOrd (eOp opItemS (eVar 5) (eC (.int 1))))) (sRaise "Unread") (sNext)
def l_look_at_2 (S S' : Nat → FSem) : SV := sSet 6 (eOp opAdd (eVar 6) (eCall (S i_look_at) (aCons (eVar 7) (aCons (eVar 1) (aCons (eOp opAdd (eVar 2) (eC (.int 1))) aNil)))))
/-- look_at(pattern, groups, deep, word, parts, run, many, part) -/
def c_look_at (S S' : Nat → FSem) : SV := sSeq (sIf (eOp opGt (eVar 2) (eC (.int 8))) (sRaise "Unread") (sNext)) <| sSeq (sSet 3 (eOp opItemS (eVar 0) (eC (.int 0)))) <| sSeq (sSet 4 (eCall (S i_parts_of) (aCons (eVar 0) aNil))) <| sSeq (sIf (eOp opGt (eOp1 opLen (eVar 4)) (eC (.int 8))) (sRaise "Unread") (sNext)) <| sSeq (sIf (eAnd (eOp opInS (eVar 3) (eTup (aCons (eC (.str [97, 103, 97, 105, 110])) (aCons (eC (.str [104, 97, 118, 101])) aNil)))) (eNot (eChain opLe opLe (eC (.int 1)) (eOp opItemS (eVar 0) (eC (.int 1))) (eVar 1)))) (sRaise "Unread") (sNext)) <| sSeq (sIf (eOp opInS (eVar 3) (eTup (aCons (eC (.str [105, 110])) (aCons (eC (.str [111, 117, 116])) aNil)))) (sSeq (sIf (eNot (eChain opLe opLe (eC (.int 1)) (eOp1 opLen (eOp opItemS (eVar 0) (eC (.int 1)))) (eC (.int 8)))) (sRaise "Unread") (sNext)) <| sFor 5 (iVal (eOp opItemS (eVar 0) (eC (.int 1)))) (l_look_at_1 S S')) (sNext)) <| sSeq (sSet 6 (eC (.int 1))) <| sSeq (sFor 7 (iVal (eVar 4)) (l_look_at_2 S S')) <| sSeq (sIf (eOp opGt (eVar 6) (eC (.int 60))) (sRaise "Unread") (sNext)) <| sRet (eVar 6)
/-- read_pattern(text, reader, found, groups) -/
def c_read_pattern (S S' : Nat → FSem) : SV := sSeq (sNew 1 "Reader" (S' i_Reader___init__) (aCons (eVar 0) aNil)) <| sSeq (sSet 2 (eMeth "Reader" "whole" (S i_Reader_whole) (eVar 1) (aCons (eC (.int 1)) aNil))) <| sSeq (sIf (eOp opNe (eMeth "Reader" "ahead" (S i_Reader_ahead) (eVar 1) aNil) (eC (.str []))) (sRaise "Unread") (sNext)) <| sSeq (sSet 3 (eCall (S i_groups_in) (aCons (eVar 2) aNil))) <| sSeq (sIf (eOp opGt (eVar 3) (eC (.int 9))) (sRaise "Unread") (sNext)) <| sSeq (sExpr (eCall (S i_look_at) (aCons (eVar 2) (aCons (eVar 3) (aCons (eC (.int 1)) aNil))))) <| sSeq (sIf (eOp opNe (eCall (S i_pattern_text) (aCons (eVar 2) aNil)) (eVar 0)) (sRaise "Unread") (sNext)) <| sRet (eVar 2)
/-- _law_take(_law_box, _law_many, _law_number_here) -/
def c_law_take (S S' : Nat → FSem) : SV := sSeq (sIf (eOp opEq (eVar 0) (eLst (aNil))) (sRet (eC (.int 0))) (sNext)) <| sSeq (sSet 2 (eOp opItemS (eVar 0) (eC (.int 0)))) <| sSeq (sItem 0 (eC (.int 0)) (eOp opDiv (eVar 2) (eVar 1))) <| sSeq (sIf (eOr (eOp opEq (eOp opItemS (eVar 0) (eC (.int 0))) (eC (.int 0))) (eOp opEq (eOp opItemS (eVar 0) (eC (.int 0))) (eOp1 opNeg (eC (.int 1))))) (sExpr (ePop0 0)) (sNext)) <| sRet (eOp opMod (eVar 2) (eVar 1))
/-- _law_sign(_law_cell, _law_some) -/
def c_law_sign (S S' : Nat → FSem) : SV := sSeq (sSet 1 (eC (.str [32, 33, 34, 35, 36, 38, 39, 40, 41, 42, 43, 44, 45, 46, 47, 48, 49, 50, 51, 52, 53, 54, 55, 56, 57, 58, 59, 60, 61, 62, 63, 64, 65, 66, 67, 68, 69, 70, 71, 72, 73, 74, 75, 76, 77, 78, 79, 80, 81, 82, 83, 84, 85, 86, 87, 88, 89, 90, 91, 92, 93, 94, 95, 96]))) <| sSeq (sSet 1 (eOp opAdd (eVar 1) (eC (.str [97, 98, 99, 100, 101, 102, 103, 104, 105, 106, 107, 108, 109, 110, 111, 112, 113, 114, 115, 116, 117, 118, 119, 120, 121, 122, 123, 124, 125, 126])))) <| sRet (eOp opItemS (eVar 1) (eOp opMod (eVar 0) (eC (.int 94))))
/-- _law_letters(_law_box, _law_k) -/
def c_law_letters (S S' : Nat → FSem) : SV := sRetL (eComp 1 (iRng (eC (.int 3))) (eTrue) (eCall (S i_law_sign) (aCons (eCall (S i_law_take) (aCons (eVar 0) (aCons (eC (.int 94)) aNil))) aNil)))
def l_law_runs_1 (S S' : Nat → FSem) : SV := sSeq (sSet 4 (eOp opItemS (eVar 1) (eCall (S i_law_take) (aCons (eVar 0) (aCons (eC (.int 3)) aNil))))) <| sSeq (sSet 5 (eOp opItemS (eVar 1) (eCall (S i_law_take) (aCons (eVar 0) (aCons (eC (.int 3)) aNil))))) <| sIf (eOp opGt (eOp1 opOrd (eVar 4)) (eOp1 opOrd (eVar 5))) (sExpr (eAppend 2 (eTup (aCons (eVar 5) (aCons (eVar 4) aNil))))) (sExpr (eAppend 2 (eTup (aCons (eVar 4) (aCons (eVar 5) aNil)))))
/-- _law_runs(_law_box, _law_letters_here, _law_runs_here, _law_k, _law_one, _law_two) -/
def c_law_runs (S S' : Nat → FSem) : SV := sSeq (sOwn 2 (eLst (aNil))) <| sSeq (sFor 3 (iRng (eOp opAdd (eC (.int 1)) (eCall (S i_law_take) (aCons (eVar 0) (aCons (eC (.int 2)) aNil))))) (l_law_runs_1 S S')) <| sRet (eOp1 opTuple (eVar 2))
/-- _law_leaf(_law_box, _law_letters_here, _law_count, _law_kind) -/
def c_law_leaf (S S' : Nat → FSem) : SV := sSeq (sSet 3 (eCall (S i_law_take) (aCons (eVar 0) (aCons (eC (.int 8)) aNil)))) <| sSeq (sIf (eOp opLt (eVar 3) (eC (.int 3))) (sRet (eTup (aCons (eC (.str [115, 105, 103, 110])) (aCons (eOp opItemS (eVar 1) (eCall (S i_law_take) (aCons (eVar 0) (aCons (eC (.int 3)) aNil)))) aNil)))) (sNext)) <| sSeq (sIf (eOp opEq (eVar 3) (eC (.int 3))) (sRet (eTup (aCons (eC (.str [97, 110, 121])) aNil))) (sNext)) <| sSeq (sIf (eOp opLt (eVar 3) (eC (.int 6))) (sRet (eTup (aCons (eOp opItemS (eLst (aCons (eC (.str [105, 110])) (aCons (eC (.str [111, 117, 116])) aNil))) (eOp opSub (eVar 3) (eC (.int 4)))) (aCons (eCall (S i_law_runs) (aCons (eVar 0) (aCons (eVar 1) aNil))) aNil)))) (sNext)) <| sSeq (sIf (eOr (eOp opEq (eVar 3) (eC (.int 6))) (eOr (eOp opEq (eOp opItemS (eVar 2) (eC (.int 0))) (eC (.int 0))) (eOp opEq (eOp opItemS (eVar 2) (eC (.int 1))) (eC (.int 1))))) (sRet (eTup (aCons (eOp opItemS (eLst (aCons (eC (.str [98, 101, 103, 105, 110])) (aCons (eC (.str [101, 110, 100])) aNil))) (eCall (S i_law_take) (aCons (eVar 0) (aCons (eC (.int 2)) aNil)))) aNil))) (sNext)) <| sRet (eTup (aCons (eC (.str [97, 103, 97, 105, 110])) (aCons (eOp opAdd (eC (.int 1)) (eCall (S i_law_take) (aCons (eVar 0) (aCons (eOp opItemS (eVar 2) (eC (.int 0))) aNil)))) aNil)))
def l_law_parts_1 (S S' : Nat → FSem) : SV := sSeq (sSet 7 (eCall (S i_law_pattern) (aCons (eVar 0) (aCons (eVar 1) (aCons (eVar 2) (aCons (eOp opSub (eVar 3) (eC (.int 1))) aNil)))))) <| sSeq (sIf (eOp opEq (eOp opItemS (eVar 7) (eC (.int 0))) (eVar 4)) (sSet 7 (eTup (aCons (eC (.str [116, 105, 109, 101, 115])) (aCons (eC (.int 1)) (aCons (eC (.int 1)) (aCons (eC (.str [109, 117, 99, 104])) (aCons (eVar 7) aNil))))))) (sNext)) <| sExpr (eAppend 5 (eVar 7))
/-- _law_parts(_law_box, _law_letters_here, _law_count, _law_deep, _law_word, _law_parts_here, _law_k, _law_part) -/
def c_law_parts (S S' : Nat → FSem) : SV := sSeq (sOwn 5 (eLst (aNil))) <| sSeq (sFor 6 (iRng (eOp opAdd (eC (.int 2)) (eOp opMul (eOp1 opInt (eOp opGt (eVar 3) (eC (.int 2)))) (eCall (S i_law_take) (aCons (eVar 0) (aCons (eC (.int 2)) aNil)))))) (l_law_parts_1 S S')) <| sRet (eTup (aCons (eVar 4) (aCons (eOp1 opTuple (eVar 5)) aNil)))
/-- _law_times(_law_box, _law_letters_here, _law_count, _law_deep, _law_low, _law_high, _law_how) -/
def c_law_times (S S' : Nat → FSem) : SV := sSeq (sSet 4 (eCall (S i_law_take) (aCons (eVar 0) (aCons (eC (.int 3)) aNil)))) <| sSeq (sSet 5 (eOp opItemS (eLst (aCons (eC .non) (aCons (eOp opAdd (eVar 4) (eC (.int 1))) (aCons (eOp opAdd (eVar 4) (eC (.int 2))) (aCons (eOp opMax2 (eVar 4) (eC (.int 1))) aNil))))) (eCall (S i_law_take) (aCons (eVar 0) (aCons (eC (.int 4)) aNil))))) <| sSeq (sSet 6 (eOp opItemS (eLst (aCons (eC (.str [109, 117, 99, 104])) (aCons (eC (.str [108, 105, 116, 116, 108, 101])) (aCons (eC (.str [107, 101, 101, 112])) aNil)))) (eCall (S i_law_take) (aCons (eVar 0) (aCons (eC (.int 3)) aNil))))) <| sSeq (sIf (eAnd (eOp opEq (eVar 6) (eC (.str [107, 101, 101, 112]))) (eOp opEq (eOp opItemS (eVar 2) (eC (.int 1))) (eC (.int 1)))) (sSet 6 (eC (.str [109, 117, 99, 104]))) (sNext)) <| sRet (eTup (aCons (eC (.str [116, 105, 109, 101, 115])) (aCons (eVar 4) (aCons (eVar 5) (aCons (eVar 6) (aCons (eCall (S i_law_pattern) (aCons (eVar 0) (aCons (eVar 1) (aCons (eVar 2) (aCons (eOp opSub (eVar 3) (eC (.int 1))) aNil))))) aNil))))))
/-- _law_pattern(_law_box, _law_letters_here, _law_count, _law_deep, _law_kind, _law_number_here, _law_yes, _law_word) -/
def c_law_pattern (S S' : Nat → FSem) : SV := sSeq (sSet 4 (eCall (S i_law_take) (aCons (eVar 0) (aCons (eC (.int 12)) aNil)))) <| sSeq (sIf (eOr (eOp opEq (eVar 3) (eC (.int 0))) (eOp opLt (eVar 4) (eC (.int 2)))) (sRet (eCall (S i_law_leaf) (aCons (eVar 0) (aCons (eVar 1) (aCons (eVar 2) aNil))))) (sNext)) <| sSeq (sIf (eAnd (eOp opEq (eVar 4) (eC (.int 2))) (eOp opEq (eCall (S i_law_take) (aCons (eVar 0) (aCons (eC (.int 5)) aNil))) (eC (.int 1)))) (sRet (eTup (aCons (eC (.str [114, 111, 119])) (aCons (eTup (aNil)) aNil)))) (sNext)) <| sSeq (sIf (eOp opLt (eVar 4) (eC (.int 6))) (sRet (eCall (S i_law_parts) (aCons (eVar 0) (aCons (eVar 1) (aCons (eVar 2) (aCons (eVar 3) (aCons (eOp opItemS (eLst (aCons (eC (.str [114, 111, 119])) (aCons (eC (.str [111, 114])) aNil))) (eOp opDiv (eVar 4) (eC (.int 4)))) aNil))))))) (sNext)) <| sSeq (sIf (eOp opLt (eVar 4) (eC (.int 9))) (sRet (eCall (S i_law_times) (aCons (eVar 0) (aCons (eVar 1) (aCons (eVar 2) (aCons (eVar 3) aNil)))))) (sNext)) <| sSeq (sIf (eOr (eOp opEq (eVar 4) (eC (.int 9))) (eOp opEq (eOp opItemS (eVar 2) (eC (.int 1))) (eC (.int 1)))) (sSeq (sIf (eOp opEq (eOp opItemS (eVar 2) (eC (.int 0))) (eC (.int 9))) (sRet (eTup (aCons (eC (.str [97, 110, 121])) aNil))) (sNext)) <| sSeq (sItem 2 (eC (.int 0)) (eOp opAdd (eOp opItemS (eVar 2) (eC (.int 0))) (eC (.int 1)))) <| sSeq (sSet 5 (eOp opItemS (eVar 2) (eC (.int 0)))) <| sRet (eTup (aCons (eC (.str [103, 114, 111, 117, 112])) (aCons (eVar 5) (aCons (eCall (S i_law_pattern) (aCons (eVar 0) (aCons (eVar 1) (aCons (eVar 2) (aCons (eOp opSub (eVar 3) (eC (.int 1))) aNil))))) aNil))))) (sNext)) <| sSeq (sIf (eAnd (eOp opEq (eVar 4) (eC (.int 10))) (eOp opGt (eOp opItemS (eVar 2) (eC (.int 0))) (eC (.int 0)))) (sSeq (sSet 5 (eOp opAdd (eC (.int 1)) (eCall (S i_law_take) (aCons (eVar 0) (aCons (eOp opItemS (eVar 2) (eC (.int 0))) aNil))))) <| sSeq (sSet 6 (eCall (S i_law_pattern) (aCons (eVar 0) (aCons (eVar 1) (aCons (eVar 2) (aCons (eOp opSub (eVar 3) (eC (.int 1))) aNil)))))) <| sRet (eTup (aCons (eC (.str [104, 97, 118, 101])) (aCons (eVar 5) (aCons (eVar 6) (aCons (eCall (S i_law_pattern) (aCons (eVar 0) (aCons (eVar 1) (aCons (eVar 2) (aCons (eOp opSub (eVar 3) (eC (.int 1))) aNil))))) aNil)))))) (sNext)) <| sSeq (sSet 7 (eOp opItemS (eLst (aCons (eC (.str [111, 110, 99, 101])) (aCons (eC (.str [97, 104, 101, 97, 100])) (aCons (eC (.str [110, 111, 116, 97, 104, 101, 97, 100])) (aCons (eC (.str [98, 101, 104, 105, 110, 100])) (aCons (eC (.str [110, 111, 116, 98, 101, 104, 105, 110, 100])) aNil)))))) (eCall (S i_law_take) (aCons (eVar 0) (aCons (eC (.int 5)) aNil))))) <| sRet (eTup (aCons (eVar 7) (aCons (eCall (S i_law_pattern) (aCons (eVar 0) (aCons (eVar 1) (aCons (eVar 2) (aCons (eOp opSub (eVar 3) (eC (.int 1))) aNil))))) aNil)))
/-- _law_drawn(_law_box, _law_letters_here, _law_plain, _law_count, _law_p, _law_one, _law_two, _law_k) -/
def c_law_drawn (S S' : Nat → FSem) : SV := sSeq (sOwn 3 (eLst (aCons (eC (.int 0)) (aCons (eVar 2) aNil)))) <| sSeq (sSet 4 (eCall (S i_law_pattern) (aCons (eVar 0) (aCons (eVar 1) (aCons (eVar 3) (aCons (eC (.int 3)) aNil)))))) <| sSeq (sIf (eAnd (eOp opEq (eCall (S i_law_take) (aCons (eVar 0) (aCons (eC (.int 8)) aNil))) (eC (.int 1))) (eOp opEq (eVar 2) (eC (.int 0)))) (sSeq (sSet 5 (eTup (aCons (eC (.str [114, 111, 119])) (aCons (eTup (aCons (eTup (aCons (eC (.str [97, 103, 97, 105, 110])) (aCons (eC (.int 1)) aNil))) (aCons (eTup (aCons (eC (.str [115, 105, 103, 110])) (aCons (eOp opItemS (eVar 1) (eCall (S i_law_take) (aCons (eVar 0) (aCons (eC (.int 3)) aNil)))) aNil))) aNil))) aNil)))) <| sSeq (sSet 6 (eTup (aCons (eC (.str [103, 114, 111, 117, 112])) (aCons (eC (.int 1)) (aCons (eTup (aCons (eC (.str [105, 110])) (aCons (eCall (S i_law_runs) (aCons (eVar 0) (aCons (eVar 1) aNil))) aNil))) aNil))))) <| sSeq (sSet 4 (eTup (aCons (eC (.str [116, 105, 109, 101, 115])) (aCons (eC (.int 0)) (aCons (eC .non) (aCons (eOp opItemS (eLst (aCons (eC (.str [109, 117, 99, 104])) (aCons (eC (.str [108, 105, 116, 116, 108, 101])) aNil))) (eCall (S i_law_take) (aCons (eVar 0) (aCons (eC (.int 2)) aNil)))) (aCons (eTup (aCons (eC (.str [111, 114])) (aCons (eTup (aCons (eVar 5) (aCons (eVar 6) aNil))) aNil))) aNil))))))) <| sItem 3 (eC (.int 0)) (eC (.int 1))) (sNext)) <| sRet (eTup (aCons (eVar 4) (aCons (eOp1 opTuple (eComp 7 (iRng (eOp opItemS (eVar 3) (eC (.int 0)))) (eTrue) (eC .non))) aNil)))
def l_law_nested_1 (S S' : Nat → FSem) : SV := sSeq (sSet 5 (eCall (S i_law_take) (aCons (eVar 0) (aCons (eC (.int 4)) aNil)))) <| sSeq (sIf (eOp opEq (eVar 5) (eC (.int 0))) (sSet 3 (eTup (aCons (eC (.str [111, 110, 99, 101])) (aCons (eVar 3) aNil)))) (sNext)) <| sSeq (sIf (eOp opEq (eVar 5) (eC (.int 1))) (sSet 3 (eTup (aCons (eC (.str [116, 105, 109, 101, 115])) (aCons (eCall (S i_law_take) (aCons (eVar 0) (aCons (eC (.int 10)) aNil))) (aCons (eC .non) (aCons (eC (.str [108, 105, 116, 116, 108, 101])) (aCons (eVar 3) aNil))))))) (sNext)) <| sSeq (sIf (eOp opEq (eVar 5) (eC (.int 2))) (sSet 3 (eTup (aCons (eC (.str [116, 105, 109, 101, 115])) (aCons (eC (.int 0)) (aCons (eOp opAdd (eC (.int 1)) (eCall (S i_law_take) (aCons (eVar 0) (aCons (eC (.int 9)) aNil)))) (aCons (eC (.str [109, 117, 99, 104])) (aCons (eVar 3) aNil))))))) (sNext)) <| sIf (eOp opEq (eVar 5) (eC (.int 3))) (sSet 3 (eTup (aCons (eC (.str [110, 111, 116, 98, 101, 104, 105, 110, 100])) (aCons (eVar 3) aNil)))) (sNext)
/-- _law_nested(_law_box, _law_letters_here, _law_deep, _law_p, _law_k, _law_kind) -/
def c_law_nested (S S' : Nat → FSem) : SV := sSeq (sSet 3 (eTup (aCons (eC (.str [115, 105, 103, 110])) (aCons (eOp opItemS (eVar 1) (eC (.int 0))) aNil)))) <| sSeq (sFor 4 (iRng (eOp opSub (eVar 2) (eC (.int 1)))) (l_law_nested_1 S S')) <| sRet (eVar 3)
def l_law_wide_1 (S S' : Nat → FSem) : SV := sExpr (eAppend 6 (eTup (aCons (eC (.str [115, 105, 103, 110])) (aCons (eOp opItemS (eVar 1) (eCall (S i_law_take) (aCons (eVar 0) (aCons (eC (.int 3)) aNil)))) aNil))))
def l_law_wide_2 (S S' : Nat → FSem) : SV := sSeq (sOwn 6 (eLst (aNil))) <| sSeq (sFor 7 (iRng (eVar 3)) (l_law_wide_1 S S')) <| sExpr (eAppend 4 (eTup (aCons (eC (.str [111, 114])) (aCons (eOp1 opTuple (eVar 6)) aNil))))
/-- _law_wide(_law_box, _law_letters_here, _law_one, _law_two, _law_rows, _law_k, _law_branches, _law_j) -/
def c_law_wide (S S' : Nat → FSem) : SV := sSeq (sOwn 4 (eLst (aNil))) <| sSeq (sFor 5 (iRng (eVar 2)) (l_law_wide_2 S S')) <| sRet (eTup (aCons (eC (.str [114, 111, 119])) (aCons (eOp1 opTuple (eVar 4)) aNil)))
/-- _law_many_groups(_law_letters_here, _law_many, _law_p, _law_parts_here, _law_k) -/
def c_law_many_groups (S S' : Nat → FSem) : SV := sSeq (sSet 2 (eTup (aCons (eC (.str [97, 103, 97, 105, 110])) (aCons (eVar 1) aNil)))) <| sSeq (sOwn 3 (eComp 4 (iRng (eVar 1)) (eTrue) (eTup (aCons (eC (.str [103, 114, 111, 117, 112])) (aCons (eOp opAdd (eVar 4) (eC (.int 1))) (aCons (eTup (aCons (eC (.str [115, 105, 103, 110])) (aCons (eOp opItemS (eVar 0) (eOp opMod (eVar 4) (eC (.int 3)))) aNil))) aNil)))))) <| sSeq (sIf (eOp opLt (eVar 1) (eC (.int 8))) (sRet (eTup (aCons (eC (.str [114, 111, 119])) (aCons (eOp1 opTuple (eOp opAdd (eVar 3) (eLst (aCons (eVar 2) aNil)))) aNil)))) (sNext)) <| sRet (eTup (aCons (eC (.str [114, 111, 119])) (aCons (eOp1 opTuple (eOp opAdd (eSlice (eVar 3) (pNone) (pSome (eC (.int 5)))) (eLst (aCons (eTup (aCons (eC (.str [103, 114, 111, 117, 112])) (aCons (eC (.int 6)) (aCons (eTup (aCons (eC (.str [114, 111, 119])) (aCons (eOp1 opTuple (eOp opAdd (eSlice (eVar 3) (pSome (eC (.int 6))) (pNone)) (eLst (aCons (eVar 2) aNil)))) aNil))) aNil)))) aNil)))) aNil)))
/-- _law_signed(_law_sign_here, _law_special) -/
def c_law_signed (S S' : Nat → FSem) : SV := sSeq (sIf (eOp opInS (eVar 0) (eVar 1)) (sRet (eOp opAdd (eC (.str [92])) (eVar 0))) (sNext)) <| sRet (eVar 0)
/-- _law_run_text(_law_run, _law_low) -/
def c_law_run_text (S S' : Nat → FSem) : SV := sSeq (sSet 1 (eCall (S i_law_signed) (aCons (eOp opItemS (eVar 0) (eC (.int 0))) (aCons (eC (.str [92, 91, 93, 94, 45])) aNil)))) <| sSeq (sIf (eOp opEq (eOp opItemS (eVar 0) (eC (.int 0))) (eOp opItemS (eVar 0) (eC (.int 1)))) (sRet (eVar 1)) (sNext)) <| sRet (eOp opAdd (eOp opAdd (eVar 1) (eC (.str [45]))) (eCall (S i_law_signed) (aCons (eOp opItemS (eVar 0) (eC (.int 1))) (aCons (eC (.str [92, 91, 93, 94, 45])) aNil))))
/-- _law_inner(_law_p, _law_words) -/
def c_law_inner (S S' : Nat → FSem) : SV := sSeq (sIf (eOp opInS (eOp opItemS (eVar 0) (eC (.int 0))) (eVar 1)) (sRet (eOp opAdd (eOp opAdd (eC (.str [60, 58])) (eCall (S i_law_written) (aCons (eVar 0) aNil))) (eC (.str [62])))) (sNext)) <| sRet (eCall (S i_law_written) (aCons (eVar 0) aNil))
/-- _law_leaf_text(_law_p, _law_run) -/
def c_law_leaf_text (S S' : Nat → FSem) : SV := sSeq (sIf (eOp opEq (eOp opItemS (eVar 0) (eC (.int 0))) (eC (.str [115, 105, 103, 110]))) (sRet (eCall (S i_law_signed) (aCons (eOp opItemS (eVar 0) (eC (.int 1))) (aCons (eC (.str [92, 46, 91, 93, 40, 41, 123, 125, 60, 62, 124, 94, 36, 38, 126])) aNil)))) (sNext)) <| sSeq (sIf (eOp opInS (eOp opItemS (eVar 0) (eC (.int 0))) (eTup (aCons (eC (.str [105, 110])) (aCons (eC (.str [111, 117, 116])) aNil)))) (sRet (eOp opAdd (eOp opAdd (eOp opItemS (eLst (aCons (eC (.str [91])) (aCons (eC (.str [91, 94])) aNil))) (eOp1 opInt (eOp opEq (eOp opItemS (eVar 0) (eC (.int 0))) (eC (.str [111, 117, 116]))))) (eOp1 (opJoin []) (eComp 1 (iVal (eOp opItemS (eVar 0) (eC (.int 1)))) (eTrue) (eCall (S i_law_run_text) (aCons (eVar 1) aNil))))) (eC (.str [93])))) (sNext)) <| sSeq (sIf (eOp opEq (eOp opItemS (eVar 0) (eC (.int 0))) (eC (.str [97, 103, 97, 105, 110]))) (sRet (eOp opAdd (eC (.str [38])) (eOp1 opStr (eOp opItemS (eVar 0) (eC (.int 1)))))) (sNext)) <| sRet (eOp opItemD (eC (.dic [([97, 110, 121], .str [46]), ([98, 101, 103, 105, 110], .str [94]), ([101, 110, 100], .str [36])])) (eOp opItemS (eVar 0) (eC (.int 0))))
/-- _law_written(_law_p, _law_word, _law_part, _law_high, _law_looks) -/
def c_law_written (S S' : Nat → FSem) : SV := sSeq (sSet 1 (eOp opItemS (eVar 0) (eC (.int 0)))) <| sSeq (sIf (eOp opEq (eVar 1) (eC (.str [114, 111, 119]))) (sRet (eOp1 (opJoin []) (eComp 2 (iVal (eOp opItemS (eVar 0) (eC (.int 1)))) (eTrue) (eCall (S i_law_inner) (aCons (eVar 2) (aCons (eTup (aCons (eC (.str [111, 114])) aNil)) aNil)))))) (sNext)) <| sSeq (sIf (eOp opEq (eVar 1) (eC (.str [111, 114]))) (sRet (eOp1 (opJoin [124]) (eComp 2 (iVal (eOp opItemS (eVar 0) (eC (.int 1)))) (eTrue) (eCall (S i_law_written) (aCons (eVar 2) aNil))))) (sNext)) <| sSeq (sIf (eOp opEq (eVar 1) (eC (.str [116, 105, 109, 101, 115]))) (sSeq (sSet 3 (eC (.str []))) <| sSeq (sIf (eOp1 opNotN (eOp opItemS (eVar 0) (eC (.int 2)))) (sSet 3 (eOp1 opStr (eOp opItemS (eVar 0) (eC (.int 2))))) (sNext)) <| sSeq (sSet 3 (eOp opAdd (eVar 3) (eOp opItemD (eC (.dic [([109, 117, 99, 104], .str [125]), ([108, 105, 116, 116, 108, 101], .str [63, 125]), ([107, 101, 101, 112], .str [33, 125])])) (eOp opItemS (eVar 0) (eC (.int 3)))))) <| sRet (eOp opAdd (eOp opAdd (eOp opAdd (eOp opAdd (eCall (S i_law_inner) (aCons (eOp opItemS (eVar 0) (eC (.int 4))) (aCons (eTup (aCons (eC (.str [114, 111, 119])) (aCons (eC (.str [111, 114])) (aCons (eC (.str [116, 105, 109, 101, 115])) aNil)))) aNil))) (eC (.str [123]))) (eOp1 opStr (eOp opItemS (eVar 0) (eC (.int 1))))) (eC (.str [44]))) (eVar 3))) (sNext)) <| sSeq (sIf (eOp opEq (eVar 1) (eC (.str [103, 114, 111, 117, 112]))) (sRet (eOp opAdd (eOp opAdd (eC (.str [40])) (eCall (S i_law_written) (aCons (eOp opItemS (eVar 0) (eC (.int 2))) aNil))) (eC (.str [41])))) (sNext)) <| sSeq (sIf (eOp opEq (eVar 1) (eC (.str [104, 97, 118, 101]))) (sRet (eOp opAdd (eOp opAdd (eOp opAdd (eOp opAdd (eOp opAdd (eC (.str [60])) (eOp1 opStr (eOp opItemS (eVar 0) (eC (.int 1))))) (eCall (S i_law_written) (aCons (eOp opItemS (eVar 0) (eC (.int 2))) aNil))) (eC (.str [126]))) (eCall (S i_law_written) (aCons (eOp opItemS (eVar 0) (eC (.int 3))) aNil))) (eC (.str [62])))) (sNext)) <| sSeq (sSet 4 (eC (.dic [([111, 110, 99, 101], .str [60, 33]), ([97, 104, 101, 97, 100], .str [60, 43]), ([110, 111, 116, 97, 104, 101, 97, 100], .str [60, 45]), ([98, 101, 104, 105, 110, 100], .str [60, 42]), ([110, 111, 116, 98, 101, 104, 105, 110, 100], .str [60, 47])]))) <| sSeq (sIf (eOp opInD (eVar 1) (eVar 4)) (sRet (eOp opAdd (eOp opAdd (eOp opItemD (eVar 4) (eVar 1)) (eCall (S i_law_written) (aCons (eOp opItemS (eVar 0) (eC (.int 1))) aNil))) (eC (.str [62])))) (sNext)) <| sRet (eCall (S i_law_leaf_text) (aCons (eVar 0) aNil))
/-- _law_parts_of(_law_p, _law_word) -/
def c_law_parts_of (S S' : Nat → FSem) : SV := sSeq (sSet 1 (eOp opItemS (eVar 0) (eC (.int 0)))) <| sSeq (sIf (eOr (eOp opEq (eVar 1) (eC (.str [114, 111, 119]))) (eOp opEq (eVar 1) (eC (.str [111, 114])))) (sRetL (eOp1 opList (eOp opItemS (eVar 0) (eC (.int 1))))) (sNext)) <| sSeq (sIf (eOp opEq (eVar 1) (eC (.str [116, 105, 109, 101, 115]))) (sRetL (eLst (aCons (eOp opItemS (eVar 0) (eC (.int 4))) aNil))) (sNext)) <| sSeq (sIf (eOp opEq (eVar 1) (eC (.str [103, 114, 111, 117, 112]))) (sRetL (eLst (aCons (eOp opItemS (eVar 0) (eC (.int 2))) aNil))) (sNext)) <| sSeq (sIf (eOp opEq (eVar 1) (eC (.str [104, 97, 118, 101]))) (sRetL (eLst (aCons (eOp opItemS (eVar 0) (eC (.int 2))) (aCons (eOp opItemS (eVar 0) (eC (.int 3))) aNil)))) (sNext)) <| sSeq (sIf (eOp opInS (eVar 1) (eTup (aCons (eC (.str [111, 110, 99, 101])) (aCons (eC (.str [97, 104, 101, 97, 100])) (aCons (eC (.str [110, 111, 116, 97, 104, 101, 97, 100])) (aCons (eC (.str [98, 101, 104, 105, 110, 100])) (aCons (eC (.str [110, 111, 116, 98, 101, 104, 105, 110, 100])) aNil))))))) (sRetL (eLst (aCons (eOp opItemS (eVar 0) (eC (.int 1))) aNil))) (sNext)) <| sRetL (eLst (aNil))
/-- _law_text_like(_law_found, _law_size_here) -/
def c_law_text_like (S S' : Nat → FSem) : SV := sRet (eAnd (eOp1 (opIsTy .str) (eVar 0)) (eOp opEq (eOp1 opLen (eVar 0)) (eVar 1)))
/-- _law_number(_law_found, _law_low, _law_high) -/
def c_law_number (S S' : Nat → FSem) : SV := sRet (eAnd (eOp1 (opIsTy .int) (eVar 0)) (eAnd (eNot (eOp1 (opIsTy .bool) (eVar 0))) (eAnd (eOp opLe (eVar 1) (eVar 0)) (eOp opLe (eVar 0) (eVar 2)))))
def l_law_good_runs_1 (S S' : Nat → FSem) : SV := sSeq (sIf (eOr (eNot (eOp1 (opIsTy .tuple) (eVar 1))) (eOp opNe (eOp1 opLen (eVar 1)) (eC (.int 2)))) (sRet (eC (.bl false))) (sNext)) <| sIf (eOr (eNot (eCall (S i_law_text_like) (aCons (eOp opItemS (eVar 1) (eC (.int 0))) (aCons (eC (.int 1)) aNil)))) (eOr (eNot (eCall (S i_law_text_like) (aCons (eOp opItemS (eVar 1) (eC (.int 1))) (aCons (eC (.int 1)) aNil)))) (eOp opGt (eOp1 opOrd (eOp opItemS (eVar 1) (eC (.int 0)))) (eOp1 opOrd (eOp opItemS (eVar 1) (eC (.int 1))))))) (sRet (eC (.bl false))) (sNext)
/-- _law_good_runs(_law_runs_here, _law_run) -/
def c_law_good_runs (S S' : Nat → FSem) : SV := sSeq (sIf (eOr (eNot (eOp1 (opIsTy .tuple) (eVar 0))) (eOr (eOp opLt (eOp1 opLen (eVar 0)) (eC (.int 1))) (eOp opGt (eOp1 opLen (eVar 0)) (eC (.int 8))))) (sRet (eC (.bl false))) (sNext)) <| sSeq (sFor 1 (iVal (eVar 0)) (l_law_good_runs_1 S S')) <| sRet (eC (.bl true))
/-- _law_good_turns(_law_p) -/
def c_law_good_turns (S S' : Nat → FSem) : SV := sSeq (sIf (eOr (eOp opNe (eOp1 opLen (eVar 0)) (eC (.int 5))) (eNot (eCall (S i_law_number) (aCons (eOp opItemS (eVar 0) (eC (.int 1))) (aCons (eC (.int 0)) (aCons (eC (.int 9)) aNil)))))) (sRet (eC (.bl false))) (sNext)) <| sSeq (sIf (eAnd (eOp1 opNotN (eOp opItemS (eVar 0) (eC (.int 2)))) (eNot (eCall (S i_law_number) (aCons (eOp opItemS (eVar 0) (eC (.int 2))) (aCons (eOp opMax2 (eC (.int 1)) (eOp opItemS (eVar 0) (eC (.int 1)))) (aCons (eC (.int 9)) aNil)))))) (sRet (eC (.bl false))) (sNext)) <| sRet (eAnd (eOp1 (opIsTy .str) (eOp opItemS (eVar 0) (eC (.int 3)))) (eOp opInS (eOp opItemS (eVar 0) (eC (.int 3))) (eTup (aCons (eC (.str [109, 117, 99, 104])) (aCons (eC (.str [108, 105, 116, 116, 108, 101])) (aCons (eC (.str [107, 101, 101, 112])) aNil))))))
/-- _law_good_head(_law_p, _law_seen, _law_total, _law_word) -/
def c_law_good_head (S S' : Nat → FSem) : SV := sSeq (sSet 3 (eOp opItemS (eVar 0) (eC (.int 0)))) <| sSeq (sIf (eOp opEq (eVar 3) (eC (.str [115, 105, 103, 110]))) (sRet (eAnd (eOp opEq (eOp1 opLen (eVar 0)) (eC (.int 2))) (eCall (S i_law_text_like) (aCons (eOp opItemS (eVar 0) (eC (.int 1))) (aCons (eC (.int 1)) aNil))))) (sNext)) <| sSeq (sIf (eOp opInS (eVar 3) (eTup (aCons (eC (.str [97, 110, 121])) (aCons (eC (.str [98, 101, 103, 105, 110])) (aCons (eC (.str [101, 110, 100])) aNil))))) (sRet (eOp opEq (eOp1 opLen (eVar 0)) (eC (.int 1)))) (sNext)) <| sSeq (sIf (eOr (eOp opEq (eVar 3) (eC (.str [105, 110]))) (eOp opEq (eVar 3) (eC (.str [111, 117, 116])))) (sRet (eAnd (eOp opEq (eOp1 opLen (eVar 0)) (eC (.int 2))) (eCall (S i_law_good_runs) (aCons (eOp opItemS (eVar 0) (eC (.int 1))) aNil)))) (sNext)) <| sSeq (sIf (eOp opEq (eVar 3) (eC (.str [97, 103, 97, 105, 110]))) (sRet (eAnd (eOp opEq (eOp1 opLen (eVar 0)) (eC (.int 2))) (eCall (S i_law_number) (aCons (eOp opItemS (eVar 0) (eC (.int 1))) (aCons (eC (.int 1)) (aCons (eVar 2) aNil)))))) (sNext)) <| sSeq (sIf (eOp opEq (eVar 3) (eC (.str [104, 97, 118, 101]))) (sRet (eAnd (eOp opEq (eOp1 opLen (eVar 0)) (eC (.int 4))) (eCall (S i_law_number) (aCons (eOp opItemS (eVar 0) (eC (.int 1))) (aCons (eC (.int 1)) (aCons (eVar 2) aNil)))))) (sNext)) <| sSeq (sIf (eOp opEq (eVar 3) (eC (.str [116, 105, 109, 101, 115]))) (sRet (eCall (S i_law_good_turns) (aCons (eVar 0) aNil))) (sNext)) <| sSeq (sIf (eOp opEq (eVar 3) (eC (.str [103, 114, 111, 117, 112]))) (sSeq (sExpr (eAppend 1 (eC (.int 0)))) <| sRet (eAnd (eOp opEq (eOp1 opLen (eVar 0)) (eC (.int 3))) (eCall (S i_law_number) (aCons (eOp opItemS (eVar 0) (eC (.int 1))) (aCons (eOp1 opLen (eVar 1)) (aCons (eOp1 opLen (eVar 1)) aNil)))))) (sNext)) <| sSeq (sIf (eOr (eOp opEq (eVar 3) (eC (.str [114, 111, 119]))) (eOp opEq (eVar 3) (eC (.str [111, 114])))) (sSeq (sIf (eOr (eOp opNe (eOp1 opLen (eVar 0)) (eC (.int 2))) (eOr (eNot (eOp1 (opIsTy .tuple) (eOp opItemS (eVar 0) (eC (.int 1))))) (eOr (eOp opGt (eOp1 opLen (eOp opItemS (eVar 0) (eC (.int 1)))) (eC (.int 8))) (eOp opEq (eOp1 opLen (eOp opItemS (eVar 0) (eC (.int 1)))) (eC (.int 1)))))) (sRet (eC (.bl false))) (sNext)) <| sRet (eOr (eOp opEq (eVar 3) (eC (.str [114, 111, 119]))) (eOp opGt (eOp1 opLen (eOp opItemS (eVar 0) (eC (.int 1)))) (eC (.int 0))))) (sNext)) <| sRet (eAnd (eOp opEq (eOp1 opLen (eVar 0)) (eC (.int 2))) (eOp opInS (eVar 3) (eTup (aCons (eC (.str [111, 110, 99, 101])) (aCons (eC (.str [97, 104, 101, 97, 100])) (aCons (eC (.str [110, 111, 116, 97, 104, 101, 97, 100])) (aCons (eC (.str [98, 101, 104, 105, 110, 100])) (aCons (eC (.str [110, 111, 116, 98, 101, 104, 105, 110, 100])) aNil))))))))
def l_law_size_1 (S S' : Nat → FSem) : SV := sSeq (sSet 4 (eOp opAdd (eVar 4) (eCall (S i_law_size) (aCons (eVar 5) (aCons (eVar 1) (aCons (eVar 2) (aCons (eOp opAdd (eVar 3) (eC (.int 1))) aNil))))))) <| sIf (eAnd (eOp opInS (eOp opItemS (eVar 0) (eC (.int 0))) (eTup (aCons (eC (.str [114, 111, 119])) (aCons (eC (.str [111, 114])) aNil)))) (eAnd (eOp opLt (eVar 4) (eC (.int 1000))) (eOp opEq (eOp opItemS (eVar 5) (eC (.int 0))) (eOp opItemS (eVar 0) (eC (.int 0)))))) (sRet (eC (.int 1000))) (sNext)
/-- _law_size(_law_p, _law_seen, _law_total, _law_deep, _law_size_here, _law_part) -/
def c_law_size (S S' : Nat → FSem) : SV := sSeq (sIf (eOr (eOp opGt (eVar 3) (eC (.int 8))) (eOr (eNot (eOp1 (opIsTy .tuple) (eVar 0))) (eOr (eOp opLt (eOp1 opLen (eVar 0)) (eC (.int 1))) (eNot (eOp1 (opIsTy .str) (eOp opItemS (eVar 0) (eC (.int 0)))))))) (sRet (eC (.int 1000))) (sNext)) <| sSeq (sIf (eNot (eCall (S i_law_good_head) (aCons (eVar 0) (aCons (eVar 1) (aCons (eVar 2) aNil))))) (sRet (eC (.int 1000))) (sNext)) <| sSeq (sSet 4 (eC (.int 1))) <| sSeq (sFor 5 (iVal (eCall (S i_law_parts_of) (aCons (eVar 0) aNil))) (l_law_size_1 S S')) <| sRet (eVar 4)
/-- _law_good(_law_p, _law_total, _law_seen) -/
def c_law_good (S S' : Nat → FSem) : SV := sSeq (sOwn 2 (eLst (aNil))) <| sRet (eAnd (eOp opLe (eCall (S i_law_size) (aCons (eVar 0) (aCons (eVar 2) (aCons (eVar 1) (aCons (eC (.int 1)) aNil))))) (eC (.int 60))) (eAnd (eOp opEq (eOp1 opLen (eVar 2)) (eVar 1)) (eOp opLe (eVar 1) (eC (.int 9)))))
/-- _law_refused(_law_pattern_like, _law_refused_here, e) -/
def c_law_refused (S S' : Nat → FSem) : SV := sSeq (sSet 1 (eC (.bl false))) <| sSeq (sTry [("SeekError", true), ("Unread", true), ("NoForm", true), ("Memory", true), ("Over", true)] 2 (sExpr (eCall (S i_read_pattern) (aCons (eVar 0) aNil))) (sSeq (sSet 1 (eAnd (eIsE [("SeekError", false), ("Unread", true), ("NoForm", false), ("Memory", false), ("Over", false)] 2) (eIsE [("SeekError", true), ("Unread", true), ("NoForm", true), ("Memory", true), ("Over", true)] 2))) <| sSeq (sSet 1 (eAnd (eVar 1) (eAnd (eNot (eIsE [("SeekError", false), ("Unread", false), ("NoForm", true), ("Memory", false), ("Over", false)] 2)) (eNot (eIsE [("SeekError", false), ("Unread", false), ("NoForm", false), ("Memory", true), ("Over", false)] 2))))) <| sSet 1 (eAnd (eVar 1) (eNot (eIsE [("SeekError", false), ("Unread", false), ("NoForm", false), ("Memory", false), ("Over", true)] 2))))) <| sRet (eVar 1)
/-- _law_beyond(_law_box, _law_letters_here, _law_kind, _law_k, _law_runs_here, _law_inner_here) -/
def c_law_beyond (S S' : Nat → FSem) : SV := sSeq (sSet 2 (eCall (S i_law_take) (aCons (eVar 0) (aCons (eC (.int 5)) aNil)))) <| sSeq (sIf (eOp opEq (eVar 2) (eC (.int 0))) (sRet (eCall (S i_law_nested) (aCons (eVar 0) (aCons (eVar 1) (aCons (eOp opAdd (eC (.int 7)) (eCall (S i_law_take) (aCons (eVar 0) (aCons (eC (.int 4)) aNil)))) aNil))))) (sNext)) <| sSeq (sIf (eOp opEq (eVar 2) (eC (.int 1))) (sRet (eCall (S i_law_wide) (aCons (eVar 0) (aCons (eVar 1) (aCons (eOp opAdd (eC (.int 6)) (eCall (S i_law_take) (aCons (eVar 0) (aCons (eC (.int 4)) aNil)))) (aCons (eOp opAdd (eC (.int 6)) (eCall (S i_law_take) (aCons (eVar 0) (aCons (eC (.int 4)) aNil)))) aNil)))))) (sNext)) <| sSeq (sIf (eOp opEq (eVar 2) (eC (.int 2))) (sRet (eTup (aCons (eC (.str [114, 111, 119])) (aCons (eOp1 opTuple (eComp 3 (iRng (eOp opAdd (eC (.int 8)) (eCall (S i_law_take) (aCons (eVar 0) (aCons (eC (.int 3)) aNil))))) (eTrue) (eTup (aCons (eC (.str [103, 114, 111, 117, 112])) (aCons (eOp opAdd (eVar 3) (eC (.int 1))) (aCons (eTup (aCons (eC (.str [97, 110, 121])) aNil)) aNil)))))) aNil)))) (sNext)) <| sSeq (sIf (eOp opEq (eVar 2) (eC (.int 3))) (sSeq (sOwn 4 (eComp 3 (iRng (eOp opAdd (eC (.int 7)) (eCall (S i_law_take) (aCons (eVar 0) (aCons (eC (.int 3)) aNil))))) (eTrue) (eTup (aCons (eOp opItemS (eVar 1) (eC (.int 0))) (aCons (eOp opItemS (eVar 1) (eC (.int 0))) aNil))))) <| sRet (eTup (aCons (eC (.str [105, 110])) (aCons (eOp1 opTuple (eVar 4)) aNil)))) (sNext)) <| sSeq (sSet 5 (eTup (aCons (eC (.str [103, 114, 111, 117, 112])) (aCons (eC (.int 1)) (aCons (eTup (aCons (eC (.str [97, 103, 97, 105, 110])) (aCons (eCall (S i_law_take) (aCons (eVar 0) (aCons (eC (.int 4)) aNil))) aNil))) aNil))))) <| sRet (eTup (aCons (eC (.str [116, 105, 109, 101, 115])) (aCons (eCall (S i_law_take) (aCons (eVar 0) (aCons (eC (.int 4)) aNil))) (aCons (eCall (S i_law_take) (aCons (eVar 0) (aCons (eC (.int 4)) aNil))) (aCons (eC (.str [108, 105, 116, 116, 108, 101])) (aCons (eVar 5) aNil))))))
def l_law_spoilt_1 (S S' : Nat → FSem) : SV := sSeq (sSet 4 (eCall (S i_law_take) (aCons (eVar 0) (aCons (eOp opAdd (eOp1 opLen (eVar 1)) (eC (.int 1))) aNil)))) <| sSeq (sSet 5 (eOp opItemS (eVar 2) (eCall (S i_law_take) (aCons (eVar 0) (aCons (eC (.int 3)) aNil))))) <| sSeq (sIf (eOp opEq (eCall (S i_law_take) (aCons (eVar 0) (aCons (eC (.int 2)) aNil))) (eC (.int 1))) (sSet 5 (eOp opItemS (eC (.str [92, 46, 91, 93, 40, 41, 123, 125, 60, 62, 124, 94, 36, 38, 126, 58, 44, 45, 33, 63, 49, 57])) (eCall (S i_law_take) (aCons (eVar 0) (aCons (eC (.int 22)) aNil))))) (sNext)) <| sSeq (sSet 6 (eCall (S i_law_take) (aCons (eVar 0) (aCons (eC (.int 3)) aNil)))) <| sSet 1 (eOp opAdd (eOp opAdd (eSlice (eVar 1) (pNone) (pSome (eVar 4))) (eOp opItemS (eLst (aCons (eC (.str [])) (aCons (eVar 5) (aCons (eVar 5) aNil)))) (eVar 6))) (eSlice (eVar 1) (pSome (eOp opAdd (eVar 4) (eOp opItemS (eLst (aCons (eC (.int 1)) (aCons (eC (.int 0)) (aCons (eC (.int 1)) aNil)))) (eVar 6)))) (pNone)))
/-- _law_spoilt(_law_box, _law_line_here, _law_letters_here, _law_k, _law_at, _law_sign_here, _law_way) -/
def c_law_spoilt (S S' : Nat → FSem) : SV := sSeq (sFor 3 (iRng (eOp opAdd (eC (.int 1)) (eCall (S i_law_take) (aCons (eVar 0) (aCons (eC (.int 3)) aNil))))) (l_law_spoilt_1 S S')) <| sRet (eVar 1)
def l_law_line_1 (S S' : Nat → FSem) : SV := sSet 3 (eOp opAdd (eVar 3) (eOp opItemS (eC (.str [92, 46, 91, 93, 40, 41, 123, 125, 60, 62, 124, 38, 126, 58, 44, 45, 63, 48, 49, 97, 98])) (eCall (S i_law_take) (aCons (eVar 0) (aCons (eC (.int 21)) aNil)))))
/-- _law_line(_law_box, _law_letters_here, _law_kind, _law_some, _law_k, _law_line_here) -/
def c_law_line (S S' : Nat → FSem) : SV := sSeq (sSet 2 (eCall (S i_law_take) (aCons (eVar 0) (aCons (eC (.int 8)) aNil)))) <| sSeq (sIf (eOp opLt (eVar 2) (eC (.int 2))) (sSeq (sSet 3 (eC (.str []))) <| sSeq (sFor 4 (iRng (eCall (S i_law_take) (aCons (eVar 0) (aCons (eC (.int 13)) aNil)))) (l_law_line_1 S S')) <| sRet (eVar 3)) (sNext)) <| sSeq (sIf (eOp opLt (eVar 2) (eC (.int 4))) (sSet 5 (eCall (S i_law_written) (aCons (eCall (S i_law_beyond) (aCons (eVar 0) (aCons (eVar 1) aNil))) aNil))) (sSet 5 (eCall (S i_law_written) (aCons (eOp opItemS (eCall (S i_law_drawn) (aCons (eVar 0) (aCons (eVar 1) (aCons (eC (.int 0)) aNil)))) (eC (.int 0))) aNil)))) <| sSeq (sIf (eOr (eOp opEq (eCall (S i_law_take) (aCons (eVar 0) (aCons (eC (.int 8)) aNil))) (eC (.int 1))) (eOp opEq (eVar 2) (eC (.int 2)))) (sRet (eVar 5)) (sNext)) <| sRet (eCall (S i_law_spoilt) (aCons (eVar 0) (aCons (eVar 5) (aCons (eVar 1) aNil))))
/-- law(_law_script, _law_box, _law_letters_here, _law_line_here, _law_total, _law_k, _law_found, _law_refused_here, _law_seen) -/
def c_law (S S' : Nat → FSem) : SV := sSeq (sOwn 1 (eOp1 opList (eVar 0))) <| sSeq (sSet 2 (eCall (S i_law_letters) (aCons (eVar 1) aNil))) <| sSeq (sSet 3 (eCall (S i_law_line) (aCons (eVar 1) (aCons (eVar 2) aNil)))) <| sSeq (sSet 4 (eOp1 opLen (eComp 5 (iRng (eOp1 opLen (eVar 3))) (eOp opEq (eOp opItemS (eVar 3) (eVar 5)) (eC (.str [40]))) (eC (.int 0))))) <| sSeq (sSet 6 (eC .non)) <| sSeq (sSet 7 (eC (.bl false))) <| sSeq (sTryO [("SeekError", false), ("Unread", true), ("NoForm", false), ("Memory", false), ("Over", false)] (sSet 6 (eCall (S i_read_pattern) (aCons (eVar 3) aNil))) (sSet 7 (eC (.bl true)))) <| sSeq (sIf (eVar 7) (sRet (eCall (S i_law_refused) (aCons (eVar 3) aNil))) (sNext)) <| sSeq (sSet 8 (eOp1 opLen (eComp 5 (iRng (eVar 4)) (eCall (S i_law_good) (aCons (eVar 6) (aCons (eOp opAdd (eVar 5) (eC (.int 1))) aNil))) (eC (.int 0))))) <| sSeq (sIf (eAnd (eNot (eCall (S i_law_good) (aCons (eVar 6) (aCons (eC (.int 0)) aNil)))) (eOp opNe (eVar 8) (eC (.int 1)))) (sRet (eC (.bl false))) (sNext)) <| sRet (eOp opEq (eCall (S i_law_written) (aCons (eVar 6) aNil)) (eVar 3))
def codes : Codes := fun S S' => [⟨1, 2, c_parts_of S S'⟩, ⟨1, 3, c_groups_in S S'⟩, ⟨2, 2, c_sign_text S S'⟩, ⟨1, 3, c_runs_text S S'⟩, ⟨1, 4, c_times_text S S'⟩, ⟨1, 4, c_row_text S S'⟩, ⟨1, 3, c_pattern_text S S'⟩, ⟨2, 2, c_Reader___init__ S S'⟩, ⟨1, 1, c_Reader_ahead S S'⟩, ⟨1, 2, c_Reader_take S S'⟩, ⟨2, 2, c_Reader_want S S'⟩, ⟨1, 2, c_Reader_figure S S'⟩, ⟨2, 3, c_Reader_whole S S'⟩, ⟨2, 3, c_Reader_branch S S'⟩, ⟨2, 5, c_Reader_turned S S'⟩, ⟨2, 6, c_Reader_one S S'⟩, ⟨2, 7, c_Reader_bracket S S'⟩, ⟨1, 5, c_Reader_signs S S'⟩, ⟨1, 2, c_Reader_within S S'⟩, ⟨3, 8, c_look_at S S'⟩, ⟨1, 4, c_read_pattern S S'⟩, ⟨2, 3, c_law_take S S'⟩, ⟨1, 2, c_law_sign S S'⟩, ⟨1, 2, c_law_letters S S'⟩, ⟨2, 6, c_law_runs S S'⟩, ⟨3, 4, c_law_leaf S S'⟩, ⟨5, 8, c_law_parts S S'⟩, ⟨4, 7, c_law_times S S'⟩, ⟨4, 8, c_law_pattern S S'⟩, ⟨3, 8, c_law_drawn S S'⟩, ⟨3, 6, c_law_nested S S'⟩, ⟨4, 8, c_law_wide S S'⟩, ⟨2, 5, c_law_many_groups S S'⟩, ⟨2, 2, c_law_signed S S'⟩, ⟨1, 2, c_law_run_text S S'⟩, ⟨2, 2, c_law_inner S S'⟩, ⟨1, 2, c_law_leaf_text S S'⟩, ⟨1, 5, c_law_written S S'⟩, ⟨1, 2, c_law_parts_of S S'⟩, ⟨2, 2, c_law_text_like S S'⟩, ⟨3, 3, c_law_number S S'⟩, ⟨1, 2, c_law_good_runs S S'⟩, ⟨1, 1, c_law_good_turns S S'⟩, ⟨3, 4, c_law_good_head S S'⟩, ⟨4, 6, c_law_size S S'⟩, ⟨2, 3, c_law_good S S'⟩, ⟨1, 3, c_law_refused S S'⟩, ⟨2, 6, c_law_beyond S S'⟩, ⟨3, 7, c_law_spoilt S S'⟩, ⟨2, 6, c_law_line S S'⟩, ⟨1, 9, c_law S S'⟩]
end
end HT

namespace HT
open Sk
abbrev bxs (xs : List Int) : List D := xs.map D.int
/-- a sign that texts have -/
def Sg (c : Nat) : Prop := 32 ≤ c ∧ c ≤ 126 ∧ c ≠ 37
instance (c : Nat) : Decidable (Sg c) := by unfold Sg; exact inferInstance
inductive How where
  | much | little | keep
  deriving DecidableEq
inductive Look where
  | once | ahead | notahead | behind | notbehind
  deriving DecidableEq
inductive Pat where
  | sign (c : Nat) | any | runs (out : Bool) (rs : List (Nat × Nat)) | edge (e : Bool) | again (n : Nat)
  | row (ps : List Pat) | alt (ps : List Pat) | times (lo : Nat) (hi : Option Nat) (how : How) (p : Pat)
  | group (n : Nat) (p : Pat) | have_ (n : Nat) (p q : Pat) | look (k : Look) (p : Pat)
def How.t : How → Txt
  | .much => [109, 117, 99, 104]
  | .little => [108, 105, 116, 116, 108, 101]
  | .keep => [107, 101, 101, 112]
def Look.t : Look → Txt
  | .once => [111, 110, 99, 101]
  | .ahead => [97, 104, 101, 97, 100]
  | .notahead => [110, 111, 116, 97, 104, 101, 97, 100]
  | .behind => [98, 101, 104, 105, 110, 100]
  | .notbehind => [110, 111, 116, 98, 101, 104, 105, 110, 100]
def encR (r : Nat × Nat) : D := .tup [.str [r.1], .str [r.2]]
def encH : Option Nat → D
  | none => .non
  | some n => .int n
mutual
def enc : Pat → D
  | .sign c => .tup [.str [115, 105, 103, 110], .str [c]]
  | .any => .tup [.str [97, 110, 121]]
  | .runs o rs => .tup [.str (if o then [111, 117, 116] else [105, 110]), .tup (rs.map encR)]
  | .edge e => .tup [.str (if e then [101, 110, 100] else [98, 101, 103, 105, 110])]
  | .again n => .tup [.str [97, 103, 97, 105, 110], .int n]
  | .row ps => .tup [.str [114, 111, 119], .tup (encs ps)]
  | .alt ps => .tup [.str [111, 114], .tup (encs ps)]
  | .times lo hi how p => .tup [.str [116, 105, 109, 101, 115], .int lo, encH hi, .str how.t, enc p]
  | .group n p => .tup [.str [103, 114, 111, 117, 112], .int n, enc p]
  | .have_ n p q => .tup [.str [104, 97, 118, 101], .int n, enc p, enc q]
  | .look k p => .tup [.str k.t, enc p]
def encs : List Pat → List D
  | [] => []
  | p :: ps => enc p :: encs ps
end
mutual
/-- well formed, of depth d at the most -/
def Wf : Nat → Pat → Prop
  | _, .sign c => Sg c
  | _, .any => True
  | _, .runs _ rs => 1 ≤ rs.length ∧ rs.length ≤ 8 ∧ ∀ r ∈ rs, Sg r.1 ∧ Sg r.2 ∧ r.1 ≤ r.2
  | _, .edge _ => True
  | _, .again n => 1 ≤ n ∧ n ≤ 9
  | d, .row ps => ps.length ≤ 10 ∧ match d with
    | 0 => ps = []
    | d + 1 => Wfs d ps
  | d, .alt ps => 2 ≤ ps.length ∧ ps.length ≤ 9 ∧ match d with
    | 0 => False
    | d + 1 => Wfs d ps
  | d, .times lo hi _ p => lo ≤ 9 ∧ (∀ h, hi = some h → lo ≤ h ∧ 1 ≤ h ∧ h ≤ 9) ∧ match d with
    | 0 => False
    | d + 1 => Wf d p
  | d, .group n p => 1 ≤ n ∧ n ≤ 9 ∧ match d with
    | 0 => False
    | d + 1 => Wf d p
  | d, .have_ n p q => 1 ≤ n ∧ n ≤ 9 ∧ match d with
    | 0 => False
    | d + 1 => Wf d p ∧ Wf d q
  | d, .look _ p => match d with
    | 0 => False
    | d + 1 => Wf d p
def Wfs : Nat → List Pat → Prop
  | _, [] => True
  | d, p :: ps => Wf d p ∧ Wfs d ps
end

def GoodR (r : Nat × Nat) : Prop := Sg r.1 ∧ Sg r.2 ∧ r.1 ≤ r.2
mutual
theorem Wf.succ : ∀ {d : Nat} {p : Pat}, Wf d p → Wf (d + 1) p
  | _, .sign c, h => by simpa [Wf] using h
  | _, .any, _ => by simp [Wf]
  | _, .runs _ rs, h => by simpa [Wf] using h
  | _, .edge _, _ => by simp [Wf]
  | _, .again n, h => by simpa [Wf] using h
  | 0, .row ps, h => by simp [Wf] at h; simp [Wf, h.2, Wfs]
  | d + 1, .row ps, h => by simp only [Wf] at h ⊢; exact ⟨h.1, Wfs.succ h.2⟩
  | 0, .alt ps, h => by simp [Wf] at h
  | d + 1, .alt ps, h => by simp only [Wf] at h ⊢; exact ⟨h.1, h.2.1, Wfs.succ h.2.2⟩
  | 0, .times _ _ _ p, h => by simp [Wf] at h
  | d + 1, .times _ _ _ p, h => by simp only [Wf] at h ⊢; exact ⟨h.1, h.2.1, Wf.succ h.2.2⟩
  | 0, .group _ p, h => by simp [Wf] at h
  | d + 1, .group _ p, h => by simp only [Wf] at h ⊢; exact ⟨h.1, h.2.1, Wf.succ h.2.2⟩
  | 0, .have_ _ p q, h => by simp [Wf] at h
  | d + 1, .have_ _ p q, h => by simp only [Wf] at h ⊢; exact ⟨h.1, h.2.1, Wf.succ h.2.2.1, Wf.succ h.2.2.2⟩
  | 0, .look _ p, h => by simp [Wf] at h
  | d + 1, .look _ p, h => by simp only [Wf] at h ⊢; exact Wf.succ h
theorem Wfs.succ : ∀ {d : Nat} {p : List Pat}, Wfs d p → Wfs (d + 1) p
  | _, [], _ => by simp [Wfs]
  | _, p :: ps, h => by simp only [Wfs] at h ⊢; exact ⟨Wf.succ h.1, Wfs.succ h.2⟩
end
theorem Wfs.app {d : Nat} : ∀ {ps qs : List Pat}, Wfs d ps → Wfs d qs → Wfs d (ps ++ qs)
  | [], _, _, h => h
  | p :: ps, qs, h, k => by simp only [Wfs, List.cons_append] at h ⊢; exact ⟨h.1, Wfs.app h.2 k⟩
theorem Wfs.left {d : Nat} : ∀ {ps qs : List Pat}, Wfs d (ps ++ qs) → Wfs d ps
  | [], _, _ => by simp [Wfs]
  | p :: ps, qs, h => by simp only [Wfs, List.cons_append] at h ⊢; exact ⟨h.1, Wfs.left h.2⟩
theorem encs_app : ∀ (ps qs : List Pat), encs (ps ++ qs) = encs ps ++ encs qs
  | [], _ => rfl
  | p :: ps, qs => by simp [encs, encs_app ps qs]
theorem encs_len : ∀ (ps : List Pat), (encs ps).length = ps.length
  | [] => rfl
  | p :: ps => by simp [encs, encs_len ps]
/-- the word of a pattern -/
def Pat.w : Pat → Txt
  | .sign _ => [115, 105, 103, 110]
  | .any => [97, 110, 121]
  | .runs o _ => if o then [111, 117, 116] else [105, 110]
  | .edge e => if e then [101, 110, 100] else [98, 101, 103, 105, 110]
  | .again _ => [97, 103, 97, 105, 110]
  | .row _ => [114, 111, 119]
  | .alt _ => [111, 114]
  | .times _ _ _ _ => [116, 105, 109, 101, 115]
  | .group _ _ => [103, 114, 111, 117, 112]
  | .have_ _ _ _ => [104, 97, 118, 101]
  | .look k _ => k.t
theorem enc_w (p : Pat) : ∃ l, enc p = .tup (.str p.w :: l) := by
  cases p <;> exact ⟨_, rfl⟩
theorem Wf.mono {d e : Nat} {p : Pat} (h : Wf d p) (k : d ≤ e) : Wf e p := by
  induction k with
  | refl => exact h
  | step _ ih => exact ih.succ
def Pat.parts : Pat → List Pat
  | .row ps => ps
  | .alt ps => ps
  | .times _ _ _ p => [p]
  | .group _ p => [p]
  | .have_ _ p q => [p, q]
  | .look _ p => [p]
  | _ => []
theorem Wf.parts : ∀ {d : Nat} {p : Pat}, Wf (d + 1) p → Wfs d p.parts
  | _, .sign c, h => by simp [Pat.parts, Wfs]
  | _, .any, _ => by simp [Pat.parts, Wfs]
  | _, .runs _ rs, h => by simp [Pat.parts, Wfs]
  | _, .edge _, _ => by simp [Pat.parts, Wfs]
  | _, .again n, h => by simp [Pat.parts, Wfs]
  | d, .row ps, h => by simp only [Wf] at h; exact h.2
  | d, .alt ps, h => by simp only [Wf] at h; exact h.2.2
  | d, .times _ _ _ p, h => by simp only [Wf] at h; simp [Pat.parts, Wfs, h]
  | d, .group _ p, h => by simp only [Wf] at h; simp [Pat.parts, Wfs, h]
  | d, .have_ _ p q, h => by simp only [Wf] at h; simp [Pat.parts, Wfs, h]
  | d, .look _ p, h => by simp only [Wf] at h; simp [Pat.parts, Wfs, h]
theorem Wf.parts0 : ∀ {p : Pat}, Wf 0 p → p.parts = []
  | .sign c, h => rfl
  | .any, _ => rfl
  | .runs _ rs, h => rfl
  | .edge _, _ => rfl
  | .again n, h => rfl
  | .row ps, h => by simp [Wf] at h; exact h.2
  | .alt ps, h => by simp [Wf] at h
  | .times _ _ _ p, h => by simp [Wf] at h
  | .group _ p, h => by simp [Wf] at h
  | .have_ _ p q, h => by simp [Wf] at h
  | .look _ p, h => by simp [Wf] at h
theorem Wfs.mem {d : Nat} : ∀ {ps : List Pat} {p : Pat}, Wfs d ps → p ∈ ps → Wf d p
  | [], _, _, h => by cases h
  | q :: ps, p, h, k => by
    simp only [Wfs] at h
    rcases List.mem_cons.mp k with rfl | k
    · exact h.1
    · exact Wfs.mem h.2 k

mutual
/-- how many groups -/
def Pat.ng : Pat → Nat
  | .group _ p => p.ng + 1
  | .row ps => ngs ps
  | .alt ps => ngs ps
  | .times _ _ _ p => p.ng
  | .have_ _ p q => p.ng + q.ng
  | .look _ p => p.ng
  | _ => 0
def ngs : List Pat → Nat
  | [] => 0
  | p :: ps => p.ng + ngs ps
end
mutual
/-- the numbers of groups are 1 to k -/
def Bd (k : Nat) : Pat → Prop
  | .group n p => 1 ≤ n ∧ n ≤ k ∧ Bd k p
  | .again n => 1 ≤ n ∧ n ≤ k
  | .row ps => Bds k ps
  | .alt ps => Bds k ps
  | .times _ _ _ p => Bd k p
  | .have_ n p q => 1 ≤ n ∧ n ≤ k ∧ Bd k p ∧ Bd k q
  | .look _ p => Bd k p
  | .sign _ => True
  | .any => True
  | .runs _ _ => True
  | .edge _ => True
def Bds (k : Nat) : List Pat → Prop
  | [] => True
  | p :: ps => Bd k p ∧ Bds k ps
end
mutual
theorem Bd.mono {k m : Nat} (h : k ≤ m) : ∀ {p : Pat}, Bd k p → Bd m p
  | .group n p, q => by simp only [Bd] at q ⊢; exact ⟨q.1, by omega, Bd.mono h q.2.2⟩
  | .again n, q => by simp only [Bd] at q ⊢; omega
  | .row ps, q => by simp only [Bd] at q ⊢; exact Bds.mono h q
  | .alt ps, q => by simp only [Bd] at q ⊢; exact Bds.mono h q
  | .times _ _ _ p, q => by simp only [Bd] at q ⊢; exact Bd.mono h q
  | .have_ n p r, q => by simp only [Bd] at q ⊢; exact ⟨q.1, by omega, Bd.mono h q.2.2.1, Bd.mono h q.2.2.2⟩
  | .look _ p, q => by simp only [Bd] at q ⊢; exact Bd.mono h q
  | .sign _, _ => by simp [Bd]
  | .any, _ => by simp [Bd]
  | .runs _ _, _ => by simp [Bd]
  | .edge _, _ => by simp [Bd]
theorem Bds.mono {k m : Nat} (h : k ≤ m) : ∀ {ps : List Pat}, Bds k ps → Bds m ps
  | [], _ => by simp [Bds]
  | p :: ps, q => by simp only [Bds] at q ⊢; exact ⟨Bd.mono h q.1, Bds.mono h q.2⟩
end
theorem Bds.app {k : Nat} : ∀ {ps qs : List Pat}, Bds k ps → Bds k qs → Bds k (ps ++ qs)
  | [], _, _, h => h
  | p :: ps, qs, h, q => by simp only [Bds, List.cons_append] at h ⊢; exact ⟨h.1, Bds.app h.2 q⟩
theorem ngs_app : ∀ (ps qs : List Pat), ngs (ps ++ qs) = ngs ps + ngs qs
  | [], _ => by simp [ngs]
  | p :: ps, qs => by simp [ngs, ngs_app ps qs]; omega
mutual
/-- how many patterns -/
def Pat.nd : Pat → Nat
  | .group _ p => p.nd + 1
  | .row ps => nds ps + 1
  | .alt ps => nds ps + 1
  | .times _ _ _ p => p.nd + 1
  | .have_ _ p q => p.nd + q.nd + 1
  | .look _ p => p.nd + 1
  | _ => 1
def nds : List Pat → Nat
  | [] => 0
  | p :: ps => p.nd + nds ps
end
theorem nd_mem : ∀ {ps : List Pat} {p : Pat}, p ∈ ps → p.nd ≤ nds ps
  | [], _, h => by cases h
  | q :: ps, p, h => by
    simp only [nds]
    rcases List.mem_cons.mp h with rfl | h
    · omega
    · have := nd_mem h; omega
theorem nds_app : ∀ (ps qs : List Pat), nds (ps ++ qs) = nds ps + nds qs
  | [], _ => by simp [nds]
  | p :: ps, qs => by simp [nds, nds_app ps qs]; omega
mutual
/-- the groups' numbers are k + 1, .. in the order in which they stand: the last one -/
def num (k : Nat) : Pat → Option Nat
  | .group n p => if n = k + 1 then num (k + 1) p else none
  | .row ps => nums k ps
  | .alt ps => nums k ps
  | .times _ _ _ p => num k p
  | .have_ _ p q => (num k p).bind fun m => num m q
  | .look _ p => num k p
  | _ => some k
def nums (k : Nat) : List Pat → Option Nat
  | [] => some k
  | p :: ps => (num k p).bind fun m => nums m ps
end
theorem nums_app : ∀ (ps qs : List Pat) (k : Nat), nums k (ps ++ qs) = (nums k ps).bind fun m => nums m qs
  | [], _, _ => by simp [nums]
  | p :: ps, qs, k => by
    simp only [nums, List.cons_append]
    cases num k p with
    | none => rfl
    | some m => simp [nums_app ps qs m]
mutual
theorem num_ng : ∀ {p : Pat} {k m : Nat}, num k p = some m → k + p.ng = m
  | .group n p, k, m, h => by
    simp only [num] at h
    split at h
    · have := num_ng h; simp only [Pat.ng]; omega
    · cases h
  | .row ps, k, m, h => by simp only [num] at h; simp only [Pat.ng]; exact nums_ng h
  | .alt ps, k, m, h => by simp only [num] at h; simp only [Pat.ng]; exact nums_ng h
  | .times _ _ _ p, k, m, h => by simp only [num] at h; simp only [Pat.ng]; exact num_ng h
  | .have_ _ p q, k, m, h => by
    simp only [num] at h
    cases e : num k p with
    | none => rw [e] at h; cases h
    | some j =>
      rw [e] at h
      have h1 := num_ng e
      have h2 := num_ng (show num j q = some m from h)
      simp only [Pat.ng]; omega
  | .look _ p, k, m, h => by simp only [num] at h; simp only [Pat.ng]; exact num_ng h
  | .sign _, k, m, h => by simp only [num] at h; cases h; rfl
  | .any, k, m, h => by simp only [num] at h; cases h; rfl
  | .runs _ _, k, m, h => by simp only [num] at h; cases h; rfl
  | .edge _, k, m, h => by simp only [num] at h; cases h; rfl
  | .again _, k, m, h => by simp only [num] at h; cases h; rfl
theorem nums_ng : ∀ {ps : List Pat} {k m : Nat}, nums k ps = some m → k + ngs ps = m
  | [], k, m, h => by simp only [nums] at h; cases h; rfl
  | p :: ps, k, m, h => by
    simp only [nums] at h
    cases e : num k p with
    | none => rw [e] at h; cases h
    | some j =>
      rw [e] at h
      have h1 := num_ng e
      have h2 := nums_ng (show nums j ps = some m from h)
      simp only [ngs]; omega
end
/-- how many patterns a draw of depth d has at the most -/
def NB : Nat → Nat
  | 0 => 1
  | d + 1 => (if 2 < d + 1 then 3 else 2) * (NB d + 1) + 1
theorem itemK_nat (l : List D) (i : Nat) (x : D) (h : l[i]? = some x) : itemK l (i : Int) = some x := by
  have := (List.getElem?_eq_some_iff.mp h).1
  unfold itemK ixK
  rw [if_pos (by omega), if_pos (by omega)]
  exact h
@[simp] theorem itemK_zero (x : D) (l : List D) : itemK (x :: l) 0 = some x := itemK_nat _ 0 _ rfl
@[simp] theorem itemK_one (x y : D) (l : List D) : itemK (x :: y :: l) 1 = some y := itemK_nat _ 1 _ rfl
@[simp] theorem itemK_two (x y z : D) (l : List D) : itemK (x :: y :: z :: l) 2 = some z := itemK_nat _ 2 _ rfl
@[simp] theorem itemK_three (x y z u : D) (l : List D) : itemK (x :: y :: z :: u :: l) 3 = some u := itemK_nat _ 3 _ rfl
@[simp] theorem itemK_four (x y z u v : D) (l : List D) : itemK (x :: y :: z :: u :: v :: l) 4 = some v := itemK_nat _ 4 _ rfl
theorem len_upTo (lo : Int) (n : Nat) : (upTo lo n).length = n := by simp [upTo]
theorem get_upTo {lo : Int} {n k : Nat} {x : D} (h : (upTo lo n)[k]? = some x) : x = .int (lo + k) ∧ k < n := by
  have hk := (List.getElem?_eq_some_iff.mp h).1
  rw [len_upTo] at hk
  refine ⟨?_, hk⟩
  simp [upTo, hk] at h
  exact h.symm
theorem item_nat {α : Type} (l : List α) (j : Nat) (h : j < l.length) : itemK l (j : Int) = some l[j] := by
  unfold itemK ixK
  rw [if_pos (by omega), if_pos (by omega)]
  simp [h]
end HT

namespace HT
open Sk
/-- what the def i does at the level n + 1 -/
theorem sem_c {n i : Nat} {c : Code} (h : (codes (sem codes n) (sem' codes n))[i]? = some c) : sem codes (n + 1) i = runF c.np c.ns c.sv := sem_succ h
theorem take_ok (n : Nat) (m : Int) (h : 0 < m) (h2 : m ≤ 1000000) (xs : List Int) : ∃ v xs', sem codes (n + 1) i_law_take [.own true (bxs xs), .d (.int m)] = .ok (.d (.int v)) [.own true (bxs xs'), .d (.int m)] ∧ 0 ≤ v ∧ v < m := by
  rw [sem_c rfl]
  cases xs with
  | nil => exact ⟨0, [], by simp -implicitDefEqProofs [c_law_take], by omega, h⟩
  | cons a r =>
    have hd := divOk_of h h2
    have m1 := Int.emod_nonneg a (by omega : m ≠ 0)
    have m2 := Int.emod_lt_of_pos a h
    by_cases h1 : a / m = 0
    · exact ⟨a % m, r, by simp -implicitDefEqProofs [c_law_take, itemK, ixK, h, hd, h1], m1, m2⟩
    · by_cases h3 : a / m = -1
      · exact ⟨a % m, r, by simp -implicitDefEqProofs [c_law_take, itemK, ixK, h, hd, h1, h3], m1, m2⟩
      · exact ⟨a % m, a / m :: r, by simp -implicitDefEqProofs [c_law_take, itemK, ixK, h, hd, h1, h3], m1, m2⟩
def signs : List Nat := [32, 33, 34, 35, 36, 38, 39, 40, 41, 42, 43, 44, 45, 46, 47, 48, 49, 50, 51, 52, 53, 54, 55, 56, 57, 58, 59, 60, 61, 62, 63, 64, 65, 66, 67, 68, 69, 70, 71, 72, 73, 74, 75, 76, 77, 78, 79, 80, 81, 82, 83, 84, 85, 86, 87, 88, 89, 90, 91, 92, 93, 94, 95, 96] ++ [97, 98, 99, 100, 101, 102, 103, 104, 105, 106, 107, 108, 109, 110, 111, 112, 113, 114, 115, 116, 117, 118, 119, 120, 121, 122, 123, 124, 125, 126]
theorem sign_ok (n : Nat) (i : Int) : ∃ c, sem codes (n + 1) i_law_sign [.d (.int i)] = .ok (.d (.str [c])) [.d (.int i)] ∧ Sg c := by
  rw [sem_c rfl]
  have m1 := Int.emod_nonneg i (by decide : (94 : Int) ≠ 0)
  have m2 := Int.emod_lt_of_pos i (by decide : (0 : Int) < 94)
  have hl : signs.length = 94 := by decide
  have hlt : (i % 94).toNat < signs.length := by rw [hl]; omega
  have hs : ∀ c ∈ signs, Sg c := by decide
  refine ⟨signs[(i % 94).toNat], ?_, hs _ (List.getElem_mem hlt)⟩
  have e : itemK signs (i % 94) = some signs[(i % 94).toNat] := by
    unfold itemK ixK
    rw [if_pos m1, if_pos (by rw [hl]; exact m2)]
    simp -implicitDefEqProofs [hlt]
  unfold signs at e
  simp only [List.cons_append, List.nil_append] at e
  simp -implicitDefEqProofs [c_law_sign, e]
  rfl

theorem letters_ok (n : Nat) (xs : List Int) : ∃ a b c xs', sem codes (n + 2) i_law_letters [.own true (bxs xs)] = .ok (.own [.str [a], .str [b], .str [c]]) [.own true (bxs xs')] ∧ Sg a ∧ Sg b ∧ Sg c := by
  rw [sem_c rfl]
  obtain ⟨v1, xs1, h1, _⟩ := take_ok n 94 (by decide) (by decide) xs
  obtain ⟨v2, xs2, h2, _⟩ := take_ok n 94 (by decide) (by decide) xs1
  obtain ⟨v3, xs3, h3, _⟩ := take_ok n 94 (by decide) (by decide) xs2
  obtain ⟨a, g1, s1⟩ := sign_ok n v1
  obtain ⟨b, g2, s2⟩ := sign_ok n v2
  obtain ⟨c, g3, s3⟩ := sign_ok n v3
  generalize sem codes (n + 1) = S at *
  generalize sem' codes (n + 1) = S' at *
  refine ⟨a, b, c, xs3, ?_, s1, s2, s3⟩
  simp -implicitDefEqProofs [c_law_letters, upTo, List.range_succ, okR, h1, h2, h3, g1, g2, g3]

section
variable {a b c : Nat}
abbrev L3 (a b c : Nat) : List D := [.str [a], .str [b], .str [c]]
theorem pick_ok {v : Int} (h0 : 0 ≤ v) (h3 : v < 3) : ∃ s, itemK (L3 a b c) v = some (.str [s]) ∧ (s = a ∨ s = b ∨ s = c) := by
  have : v = 0 ∨ v = 1 ∨ v = 2 := by omega
  rcases this with rfl | rfl | rfl
  · exact ⟨a, rfl, .inl rfl⟩
  · exact ⟨b, rfl, .inr (.inl rfl)⟩
  · exact ⟨c, rfl, .inr (.inr rfl)⟩
theorem pick_sg {s : Nat} (h : s = a ∨ s = b ∨ s = c) (ha : Sg a) (hb : Sg b) (hc : Sg c) : Sg s := by
  rcases h with rfl | rfl | rfl <;> assumption
/-- a sign drawn of the three -/
theorem drawsign_ok (n : Nat) (ha : Sg a) (hb : Sg b) (hc : Sg c) (xs : List Int) : ∃ v xs' s, sem codes (n + 1) i_law_take [.own true (bxs xs), .d (.int 3)] = .ok (.d (.int v)) [.own true (bxs xs'), .d (.int 3)] ∧ itemK (L3 a b c) v = some (.str [s]) ∧ Sg s := by
  obtain ⟨v, xs', h, h0, h3⟩ := take_ok n 3 (by decide) (by decide) xs
  obtain ⟨s, e, hs⟩ := pick_ok (a := a) (b := b) (c := c) h0 h3
  exact ⟨v, xs', s, h, e, pick_sg hs ha hb hc⟩
end
end HT

namespace HT
open Sk
section
variable {a b c : Nat}
theorem runs_ok (n : Nat) (ha : Sg a) (hb : Sg b) (hc : Sg c) (xs : List Int) : ∃ (rs : List (Nat × Nat)) (xs' : List Int), sem codes (n + 2) i_law_runs [.own true (bxs xs), .d (.lst (L3 a b c))] = .ok (.d (.tup (rs.map encR))) [.own true (bxs xs'), .d (.lst (L3 a b c))] ∧ 1 ≤ rs.length ∧ rs.length ≤ 2 ∧ ∀ r ∈ rs, GoodR r := by
  rw [sem_c rfl]
  obtain ⟨v, xs1, h, h0, h2⟩ := take_ok n 2 (by decide) (by decide) xs
  have hd := fun xs => drawsign_ok n ha hb hc xs
  generalize sem codes (n + 1) = S at *
  generalize sem' codes (n + 1) = S' at *
  obtain ⟨r', e, ⟨xs2, rs, t, u, w, rfl, -, -, -, hl, hg⟩⟩ := for_nx (i := 3) (b := l_law_runs_1 S S') (xs := upTo 0 (1 + v).toNat) (r := [.own true (bxs xs1), .d (.lst (L3 a b c)), .own false [], .un, .un, .un])
    (fun k r => ∃ (xs : List Int) (rs : List (Nat × Nat)) (t u w : A), r = [.own true (bxs xs), .d (.lst (L3 a b c)), .own false (rs.map encR), t, u, w] ∧ freeA t = true ∧ freeA u = true ∧ freeA w = true ∧ rs.length = k ∧ ∀ r ∈ rs, GoodR r)
    ⟨xs1, [], .un, .un, .un, rfl, rfl, rfl, rfl, rfl, by simp⟩ (by
      rintro k x r hx ⟨xs, rs, t, u, w, rfl, ht, hu, hw, hl, hg⟩
      refine ⟨ht, by simp, ?_⟩
      have hk := (get_upTo hx).2
      have hl' : Fit1 rs.length := fit1_of (by omega)
      obtain ⟨v1, xs1, s1, h1, e1, g1⟩ := hd xs
      obtain ⟨v2, xs2, s2, h2, e2, g2⟩ := hd xs1
      by_cases hc : (s2 : Int) < s1
      · refine ⟨_, by simp -implicitDefEqProofs [l_law_runs_1, h1, h2, e1, e2, hu, hw, hc, hl']; rfl, xs2, rs ++ [(s2, s1)], .d x, .d (.str [s1]), .d (.str [s2]), by simp -implicitDefEqProofs [encR], rfl, rfl, rfl, by simp -implicitDefEqProofs [hl], ?_⟩
        intro r hr
        rcases List.mem_append.mp hr with hr | hr
        · exact hg r hr
        · rw [List.mem_singleton.mp hr]; exact ⟨g2, g1, by simp; omega⟩
      · refine ⟨_, by simp -implicitDefEqProofs [l_law_runs_1, h1, h2, e1, e2, hu, hw, hc, hl']; rfl, xs2, rs ++ [(s1, s2)], .d x, .d (.str [s1]), .d (.str [s2]), by simp -implicitDefEqProofs [encR], rfl, rfl, rfl, by simp -implicitDefEqProofs [hl], ?_⟩
        intro r hr
        rcases List.mem_append.mp hr with hr | hr
        · exact hg r hr
        · rw [List.mem_singleton.mp hr]; exact ⟨g1, g2, by simp; omega⟩)
  rw [len_upTo] at hl
  refine ⟨rs, xs2, ?_, by omega, by omega, hg⟩
  have hr : okR (1 + v) := okR_of (by omega) (by omega)
  simp -implicitDefEqProofs [c_law_runs, h, e, hr]
end

section
variable {a b c : Nat}
/-- what a draw leaves of the counters -/
abbrev cnt (k pl : Nat) : A := .own true [.int k, .int pl]
theorem leaf_ok (n : Nat) (ha : Sg a) (hb : Sg b) (hc : Sg c) (xs : List Int) (k pl : Nat) (hk : k ≤ 9) (d : Nat) : ∃ (p : Pat) (xs' : List Int), sem codes (n + 3) i_law_leaf [.own true (bxs xs), .d (.lst (L3 a b c)), cnt k pl] = .ok (.d (enc p)) [.own true (bxs xs'), .d (.lst (L3 a b c)), cnt k pl] ∧ Wf d p ∧ Bd k p ∧ num k p = some k ∧ p.nd = 1 := by
  rw [sem_c rfl]
  obtain ⟨v, xs1, h, h0, h8⟩ := take_ok (n + 1) 8 (by decide) (by decide) xs
  obtain ⟨v3, xs3, s3, h3, e3, g3⟩ := drawsign_ok (n + 1) ha hb hc xs1
  obtain ⟨rs, xsr, hr, hr1, hr2, hrg⟩ := runs_ok n ha hb hc xs1
  obtain ⟨v2, xs2, h2, h20, h22⟩ := take_ok (n + 1) 2 (by decide) (by decide) xs1
  obtain ⟨eb, ee⟩ : ∃ eb : Bool, itemK [D.str [98, 101, 103, 105, 110], D.str [101, 110, 100]] v2 = some (.str (if eb then [101, 110, 100] else [98, 101, 103, 105, 110])) := by
    have : v2 = 0 ∨ v2 = 1 := by omega
    rcases this with rfl | rfl
    · exact ⟨false, rfl⟩
    · exact ⟨true, rfl⟩
  have htk := fun m h1 h2 => take_ok (n + 1) m h1 h2 xs1
  generalize sem codes (n + 2) = S at *
  generalize sem' codes (n + 2) = S' at *
  have wr : ∀ o, Wf d (.runs o rs) := fun o => by
    unfold Wf
    exact ⟨hr1, by omega, hrg⟩
  have hv : v < 3 ∨ v = 3 ∨ v = 4 ∨ v = 5 ∨ v = 6 ∨ v = 7 := by omega
  rcases hv with hv | rfl | rfl | rfl | rfl | rfl
  · exact ⟨.sign s3, xs3, by simp -implicitDefEqProofs [c_law_leaf, h, hv, h3, e3, enc], by simp -implicitDefEqProofs [Wf, g3], by simp -implicitDefEqProofs [Bd], rfl, rfl⟩
  · exact ⟨.any, xs1, by simp -implicitDefEqProofs [c_law_leaf, h, enc], by simp -implicitDefEqProofs [Wf], by simp -implicitDefEqProofs [Bd], rfl, rfl⟩
  · exact ⟨.runs false rs, xsr, by simp -implicitDefEqProofs [c_law_leaf, h, hr, enc], wr _, by simp -implicitDefEqProofs [Bd], rfl, rfl⟩
  · exact ⟨.runs true rs, xsr, by simp -implicitDefEqProofs [c_law_leaf, h, hr, enc], wr _, by simp -implicitDefEqProofs [Bd], rfl, rfl⟩
  · exact ⟨.edge eb, xs2, by simp -implicitDefEqProofs [c_law_leaf, h, h2, ee, enc], by simp -implicitDefEqProofs [Wf], by simp -implicitDefEqProofs [Bd], rfl, rfl⟩
  · by_cases hk0 : k = 0
    · subst hk0
      exact ⟨.edge eb, xs2, by simp -implicitDefEqProofs [c_law_leaf, h, h2, enc, ee], by simp -implicitDefEqProofs [Wf], by simp -implicitDefEqProofs [Bd], rfl, rfl⟩
    · by_cases hp : pl = 1
      · subst hp
        exact ⟨.edge eb, xs2, by simp -implicitDefEqProofs [c_law_leaf, h, h2, enc, ee, hk0], by simp -implicitDefEqProofs [Wf], by simp -implicitDefEqProofs [Bd], rfl, rfl⟩
      · obtain ⟨vk, xk, hk1, hk2, hk3⟩ := htk k (by omega) (by omega)
        refine ⟨.again (1 + vk.toNat), xk, ?_, by simp -implicitDefEqProofs [Wf]; omega, by simp -implicitDefEqProofs [Bd]; omega, rfl, rfl⟩
        have hp' : ¬ (pl : Int) = 1 := by omega
        simp -implicitDefEqProofs [c_law_leaf, h, hk0, hp', hk1, enc]
        omega

/-- what the drawing of patterns of depth d gives at the level N -/
def DrawOk (N : Nat) (a b c pl d : Nat) : Prop := ∀ (xs : List Int) (k : Nat), k ≤ 9 → ∃ (p : Pat) (xs' : List Int) (k' : Nat), sem codes N i_law_pattern [.own true (bxs xs), .d (.lst (L3 a b c)), cnt k pl, .d (.int d)] = .ok (.d (enc p)) [.own true (bxs xs'), .d (.lst (L3 a b c)), cnt k' pl, .d (.int d)] ∧ k' ≤ 9 ∧ Wf (2 * d) p ∧ num k p = some k' ∧ Bd k' p ∧ p.nd ≤ NB d
theorem parts_ok {n pl d : Nat} (ih : DrawOk (n + 1) a b c pl d) (xs : List Int) (k : Nat) (hk : k ≤ 9) (w : Bool) : ∃ (ps : List Pat) (xs' : List Int) (k' : Nat), sem codes (n + 2) i_law_parts [.own true (bxs xs), .d (.lst (L3 a b c)), cnt k pl, .d (.int ((d : Int) + 1)), .d (.str (if w then [111, 114] else [114, 111, 119]))] = .ok (.d (enc (if w then .alt ps else .row ps))) [.own true (bxs xs'), .d (.lst (L3 a b c)), cnt k' pl, .d (.int ((d : Int) + 1)), .d (.str (if w then [111, 114] else [114, 111, 119]))] ∧ k' ≤ 9 ∧ 2 ≤ ps.length ∧ ps.length ≤ 3 ∧ Wfs (2 * d + 1) ps ∧ nums k ps = some k' ∧ Bds k' ps ∧ nds ps + 1 ≤ NB (d + 1) := by
  rw [sem_c rfl]
  obtain ⟨v, xs1, h, h0, h2⟩ := take_ok n 2 (by decide) (by decide) xs
  unfold DrawOk at ih
  generalize sem codes (n + 1) = S at *
  generalize sem' codes (n + 1) = S' at *
  obtain ⟨m, hm, hm2, hm3⟩ : ∃ m : Nat, (2 + (if (2 : Int) < ((d : Int) + 1) then 1 else 0) * v : Int) = m ∧ 2 ≤ m ∧ m ≤ (if 2 < d + 1 then 3 else 2) := by
    have : v = 0 ∨ v = 1 := by omega
    rcases this with rfl | rfl
    · exact ⟨2, by split <;> rfl, by omega, by split <;> omega⟩
    · split
      · exact ⟨3, by omega, by omega, by rw [if_pos (by omega)]; omega⟩
      · exact ⟨2, by omega, by omega, by split <;> omega⟩
  have hm3' : m ≤ 3 := by split at hm3 <;> omega
  obtain ⟨r', e, ⟨xs2, k2, ps, t, u, rfl, -, -, hk2, hl, hg, hng, hbd, hnd⟩⟩ := for_nx (i := 6) (b := l_law_parts_1 S S') (xs := upTo 0 (m : Int).toNat) (r := [.own true (bxs xs1), .d (.lst (L3 a b c)), cnt k pl, .d (.int ((d : Int) + 1)), .d (.str (if w then [111, 114] else [114, 111, 119])), .own false [], .un, .un])
    (fun j r => ∃ (xs : List Int) (kk : Nat) (ps : List Pat) (t u : A), r = [.own true (bxs xs), .d (.lst (L3 a b c)), cnt kk pl, .d (.int ((d : Int) + 1)), .d (.str (if w then [111, 114] else [114, 111, 119])), .own false (encs ps), t, u] ∧ freeA t = true ∧ freeA u = true ∧ kk ≤ 9 ∧ ps.length = j ∧ Wfs (2 * d + 1) ps ∧ nums k ps = some kk ∧ Bds kk ps ∧ nds ps ≤ j * (NB d + 1))
    ⟨xs1, k, [], .un, .un, rfl, rfl, rfl, hk, rfl, by simp -implicitDefEqProofs [Wfs], rfl, by simp -implicitDefEqProofs [Bds], by simp -implicitDefEqProofs [nds]⟩ (by
      rintro j x r hx ⟨xs, kk, ps, t, u, rfl, ht, hu, hkk, hl, hg, hng, hbd, hnd⟩
      refine ⟨ht, by simp, ?_⟩
      have hj := (get_upTo hx).2
      have hl' : Fit1 ps.length := fit1_of (by omega)
      obtain ⟨p, xs3, k3, h3, hk3, wp, gp, bp, np⟩ := ih xs kk hkk
      have kk3 : kk ≤ k3 := by have := num_ng gp; omega
      have nd1 : nds ps + (NB d + 1) ≤ (j + 1) * (NB d + 1) := by rw [Nat.add_mul]; omega
      obtain ⟨l, el⟩ := enc_w p
      have h3' := h3
      rw [el] at h3'
      by_cases hw : p.w = (if w then [111, 114] else [114, 111, 119])
      · refine ⟨_, by simp -implicitDefEqProofs [l_law_parts_1, h3', hu, hw, encs_len, hl']; rfl, xs3, k3, ps ++ [.times 1 (some 1) .much p], .d x, .d (enc (.times 1 (some 1) .much p)), by simp -implicitDefEqProofs [encs_app, encs, enc, el, hw, encH, How.t], rfl, rfl, hk3, by simp -implicitDefEqProofs [hl], hg.app ?_, by simp -implicitDefEqProofs [nums_app, hng, nums, num, gp], (hbd.mono kk3).app (by simp -implicitDefEqProofs [Bds, Bd, bp]), by simp -implicitDefEqProofs [nds_app, nds, Pat.nd]; omega⟩
        simp -implicitDefEqProofs [Wfs, Wf, wp]
      · refine ⟨_, by simp -implicitDefEqProofs [l_law_parts_1, h3', hu, hw, encs_len, hl']; rfl, xs3, k3, ps ++ [p], .d x, .d (enc p), by simp -implicitDefEqProofs [encs_app, encs, el], rfl, rfl, hk3, by simp -implicitDefEqProofs [hl], hg.app ?_, by simp -implicitDefEqProofs [nums_app, hng, nums, gp], (hbd.mono kk3).app (by simp -implicitDefEqProofs [Bds, bp]), by simp -implicitDefEqProofs [nds_app, nds]; omega⟩
        simp -implicitDefEqProofs [Wfs]
        exact wp.succ)
  have hlen : (upTo 0 (m : Int).toNat).length = m := by rw [len_upTo]; rfl
  rw [hlen] at hl hnd
  have hnd2 : nds ps + 1 ≤ NB (d + 1) := by
    have := Nat.mul_le_mul_right (NB d + 1) hm3
    simp only [NB]; omega
  refine ⟨ps, xs2, k2, ?_, hk2, by omega, by omega, hg, hng, hbd, hnd2⟩
  have hr : okR (m : Int) := okR_of (by omega) (by omega)
  have hb : mulOk (if (2 : Int) < (d : Int) + 1 then 1 else 0) v := mulOk_r (by omega) (by omega)
  have hz : Fits ps.length := fits_of (by omega)
  cases w with
  | true =>
    simp only [if_true] at e ⊢
    simp -implicitDefEqProofs [c_law_parts, h, hb, hm, hr]
    simp at e
    simp -implicitDefEqProofs [e, enc]
  | false =>
    simp only [Bool.false_eq_true, if_false] at e ⊢
    simp -implicitDefEqProofs [c_law_parts, h, hb, hm, hr]
    simp at e
    simp -implicitDefEqProofs [e, enc]
theorem times_ok {n pl d : Nat} (ih : DrawOk (n + 1) a b c pl d) (xs : List Int) (k : Nat) (hk : k ≤ 9) : ∃ (p : Pat) (xs' : List Int) (k' : Nat), sem codes (n + 2) i_law_times [.own true (bxs xs), .d (.lst (L3 a b c)), cnt k pl, .d (.int ((d : Int) + 1))] = .ok (.d (enc p)) [.own true (bxs xs'), .d (.lst (L3 a b c)), cnt k' pl, .d (.int ((d : Int) + 1))] ∧ k' ≤ 9 ∧ Wf (2 * d + 2) p ∧ num k p = some k' ∧ Bd k' p ∧ p.nd ≤ NB d + 1 := by
  rw [sem_c rfl]
  obtain ⟨v1, xs1, h1, h10, h13⟩ := take_ok n 3 (by decide) (by decide) xs
  obtain ⟨v2, xs2, h2, h20, h24⟩ := take_ok n 4 (by decide) (by decide) xs1
  obtain ⟨v3, xs3, h3, h30, h33⟩ := take_ok n 3 (by decide) (by decide) xs2
  obtain ⟨p, xs4, k4, h4, hk4, wp, gp, bp, np⟩ := ih xs3 k hk
  generalize sem codes (n + 1) = S at *
  generalize sem' codes (n + 1) = S' at *
  obtain ⟨lo, rfl⟩ : ∃ lo : Nat, v1 = lo := ⟨v1.toNat, by omega⟩
  obtain ⟨hi, ehi, whi⟩ : ∃ hi : Option Nat, itemK [D.non, D.int (lo + 1), D.int (lo + 2), D.int (if (1 : Int) > lo then 1 else lo)] v2 = some (encH hi) ∧ ∀ h, hi = some h → lo ≤ h ∧ 1 ≤ h ∧ h ≤ 9 := by
    have : v2 = 0 ∨ v2 = 1 ∨ v2 = 2 ∨ v2 = 3 := by omega
    rcases this with rfl | rfl | rfl | rfl
    · exact ⟨none, rfl, by simp⟩
    · exact ⟨some (lo + 1), by simp -implicitDefEqProofs [encH], by simp; omega⟩
    · exact ⟨some (lo + 2), by simp -implicitDefEqProofs [encH], by simp; omega⟩
    · by_cases hlo : (1 : Int) > lo
      · exact ⟨some 1, by rw [if_pos hlo]; simp -implicitDefEqProofs [encH], by simp; omega⟩
      · exact ⟨some lo, by rw [if_neg hlo]; simp -implicitDefEqProofs [encH], by simp; omega⟩
  obtain ⟨how, ehow⟩ : ∃ how : How, itemK [D.str [109, 117, 99, 104], D.str [108, 105, 116, 116, 108, 101], D.str [107, 101, 101, 112]] v3 = some (.str how.t) := by
    have : v3 = 0 ∨ v3 = 1 ∨ v3 = 2 := by omega
    rcases this with rfl | rfl | rfl
    · exact ⟨.much, rfl⟩
    · exact ⟨.little, rfl⟩
    · exact ⟨.keep, rfl⟩
  have w : ∀ how, Wf (2 * d + 2) (.times lo hi how p) := fun how => by
    simp only [Wf]
    exact ⟨by omega, whi, wp.succ⟩
  clear ih
  cases how with
  | much => exact ⟨.times lo hi .much p, xs4, k4, by simp -implicitDefEqProofs [How.t] at ehow; simp -implicitDefEqProofs [c_law_times, h1, h2, h3, ehi, ehow, h4, enc, How.t], hk4, w _, by simpa [num] using gp, by simpa [Bd] using bp, by simpa [Pat.nd] using np⟩
  | little => exact ⟨.times lo hi .little p, xs4, k4, by simp -implicitDefEqProofs [How.t] at ehow; simp -implicitDefEqProofs [c_law_times, h1, h2, h3, ehi, ehow, h4, enc, How.t], hk4, w _, by simpa [num] using gp, by simpa [Bd] using bp, by simpa [Pat.nd] using np⟩
  | keep =>
    by_cases hq : (pl : Int) = 1
    · have hq2 : decide ((pl : Int) = 1) = true := by simp -implicitDefEqProofs [hq]
      exact ⟨.times lo hi .much p, xs4, k4, by simp -implicitDefEqProofs [How.t] at ehow; simp -implicitDefEqProofs [c_law_times, h1, h2, h3, ehi, ehow, h4, enc, How.t, hq2], hk4, w _, by simpa [num] using gp, by simpa [Bd] using bp, by simpa [Pat.nd] using np⟩
    · exact ⟨.times lo hi .keep p, xs4, k4, by simp -implicitDefEqProofs [How.t] at ehow; simp -implicitDefEqProofs [c_law_times, h1, h2, h3, ehi, ehow, h4, enc, How.t, hq], hk4, w _, by simpa [num] using gp, by simpa [Bd] using bp, by simpa [Pat.nd] using np⟩
theorem NB_one (d : Nat) : NB d + 1 ≤ NB (d + 1) := by
  simp only [NB]; split <;> omega
theorem NB_two (d : Nat) : 2 * NB d + 1 ≤ NB (d + 1) := by
  simp only [NB]; split <;> omega
theorem NB_pos : ∀ d, 1 ≤ NB d
  | 0 => Nat.le_refl _
  | d + 1 => by have := NB_one d; omega
theorem pattern_ok (ha : Sg a) (hb : Sg b) (hc : Sg c) (n pl : Nat) : ∀ d : Nat, DrawOk (n + 2 * d + 4) a b c pl d
  | 0 => by
    intro xs k hk
    rw [show n + 2 * 0 + 4 = (n + 3) + 1 from rfl, sem_c rfl]
    obtain ⟨v, xs1, h, h0, h12⟩ := take_ok (n + 2) 12 (by decide) (by decide) xs
    obtain ⟨p, xl, hl, wl, bl, gl, nl⟩ := leaf_ok n ha hb hc xs1 k pl hk 0
    generalize sem codes (n + 3) = S at *
    generalize sem' codes (n + 3) = S' at *
    exact ⟨p, xl, k, by simp -implicitDefEqProofs [c_law_pattern, h, hl], hk, wl, gl, bl, by rw [nl]; exact NB_pos _⟩
  | d + 1 => by
    intro xs k hk
    have ih := pattern_ok ha hb hc n pl d
    have ih' := pattern_ok ha hb hc (n + 1) pl d
    rw [show n + 1 + 2 * d + 4 = n + 2 * d + 5 by omega] at ih'
    rw [show n + 2 * (d + 1) + 4 = (n + 2 * d + 5) + 1 from rfl, sem_c rfl]
    obtain ⟨v, xs1, h, h0, h12⟩ := take_ok (n + 2 * d + 4) 12 (by decide) (by decide) xs
    obtain ⟨u, xs2, h2, h20, h25⟩ := take_ok (n + 2 * d + 4) 5 (by decide) (by decide) xs1
    have htk := fun m h1 h2 => take_ok (n + 2 * d + 4) m h1 h2 xs1
    obtain ⟨pl_, xl, hl, wl, bl, gl, nl⟩ := leaf_ok (n + 2 * d + 2) ha hb hc xs1 k pl hk (2 * (d + 1))
    have hparts := fun xs w => parts_ok (n := n + 2 * d + 3) ih xs k hk w
    have htimes := times_ok (n := n + 2 * d + 3) ih xs1 k hk
    unfold DrawOk at ih'
    clear ih
    rw [show ((d + 1 : Nat) : Int) = (d : Int) + 1 from rfl]
    generalize sem codes (n + 2 * d + 5) = S at *
    generalize sem' codes (n + 2 * d + 5) = S' at *
    have hd1 : ¬ ((d : Int) + 1 = 0) := by omega
    have h4 : divOk 4 := divOk_of (by decide) (by decide)
    have wparts : ∀ (w : Bool) (ps : List Pat), 2 ≤ ps.length → ps.length ≤ 3 → Wfs (2 * d + 1) ps → Wf (2 * (d + 1)) (if w then .alt ps else .row ps) := fun w ps l2 l3 wp => by
      cases w <;> simp -implicitDefEqProofs [Wf] <;> exact ⟨by omega, by first | exact wp | exact ⟨by omega, wp⟩⟩
    have hv : v = 0 ∨ v = 1 ∨ v = 2 ∨ v = 3 ∨ v = 4 ∨ v = 5 ∨ v = 6 ∨ v = 7 ∨ v = 8 ∨ v = 9 ∨ v = 10 ∨ v = 11 := by omega
    have grp : ∀ v : Int, v = 9 ∨ (v ≥ 10 ∧ (pl : Int) = 1) → S i_law_take [.own true (bxs xs), .d (.int 12)] = .ok (.d (.int v)) [.own true (bxs xs1), .d (.int 12)] → ∃ (p : Pat) (xs' : List Int) (k' : Nat), runF 4 8 (c_law_pattern S S') [.own true (bxs xs), .d (.lst (L3 a b c)), cnt k pl, .d (.int ((d : Int) + 1))] = .ok (.d (enc p)) [.own true (bxs xs'), .d (.lst (L3 a b c)), cnt k' pl, .d (.int ((d : Int) + 1))] ∧ k' ≤ 9 ∧ Wf (2 * (d + 1)) p ∧ num k p = some k' ∧ Bd k' p ∧ p.nd ≤ NB (d + 1) := by
      intro v hv h
      have c1 : ¬ v < 2 := by omega
      have c2 : ¬ v = 2 := by omega
      have c3 : ¬ v < 6 := by omega
      have c4 : ¬ v < 9 := by omega
      obtain ⟨p, xs', k', e, hk', wp, gp⟩ : ∃ (p : Pat) (xs' : List Int) (k' : Nat), ((k : Int) ≠ 9 → S i_law_pattern [.own true (bxs xs1), .d (.lst (L3 a b c)), .own true [.int ((k : Int) + 1), .int pl], .d (.int d)] = .ok (.d (enc p)) [.own true (bxs xs'), .d (.lst (L3 a b c)), cnt k' pl, .d (.int d)]) ∧ k' ≤ 9 ∧ Wf (2 * d) p ∧ ((k : Int) ≠ 9 → num (k + 1) p = some k' ∧ Bd k' p ∧ p.nd ≤ NB d) := by
        by_cases hk9 : (k : Int) = 9
        · exact ⟨.any, xs1, 0, fun z => absurd hk9 z, by omega, by simp -implicitDefEqProofs [Wf], fun z => absurd hk9 z⟩
        · obtain ⟨p, xs', k', e, hk', wp, gp, bp, np⟩ := ih' xs1 (k + 1) (by omega)
          exact ⟨p, xs', k', fun _ => e, hk', wp, fun _ => ⟨gp, bp, np⟩⟩
      have wg : k + 1 ≤ 9 → Wf (2 * (d + 1)) (.group (k + 1) p) := fun z => by
        rw [show 2 * (d + 1) = (2 * d + 1) + 1 from rfl]
        simp only [Wf]
        exact ⟨by omega, z, wp.succ⟩
      have eg : enc (.group (k + 1) p) = .tup [.str [103, 114, 111, 117, 112], .int ((k : Int) + 1), enc p] := rfl
      by_cases hk9 : (k : Int) = 9
      · have hq3 : decide ((k : Int) = 9) = true := by simp -implicitDefEqProofs [hk9]
        by_cases c6 : v = 9
        · subst c6
          exact ⟨.any, xs1, k, by simp -implicitDefEqProofs [c_law_pattern, h, hd1, hq3, enc], hk, by simp -implicitDefEqProofs [Wf], rfl, by simp -implicitDefEqProofs [Bd], NB_pos _⟩
        · have hq2 : decide ((pl : Int) = 1) = true := by rcases hv with hv | hv; exact absurd hv c6; simp -implicitDefEqProofs [hv.2]
          exact ⟨.any, xs1, k, by simp -implicitDefEqProofs [c_law_pattern, h, hd1, c1, c2, c3, c4, c6, hq2, hq3, enc], hk, by simp -implicitDefEqProofs [Wf], rfl, by simp -implicitDefEqProofs [Bd], NB_pos _⟩
      · have e := e hk9
        obtain ⟨gp, bp, np⟩ := gp hk9
        have g1 : num k (Pat.group (k + 1) p) = some k' := by simp -implicitDefEqProofs [num, gp]
        have g2 : Bd k' (.group (k + 1) p) := by have := num_ng gp; simp -implicitDefEqProofs [Bd, bp]; omega
        have g3 : (Pat.group (k + 1) p).nd ≤ NB (d + 1) := by have := NB_one d; simp only [Pat.nd]; omega
        by_cases c6 : v = 9
        · subst c6
          exact ⟨.group (k + 1) p, xs', k', by rw [eg]; simp -implicitDefEqProofs [c_law_pattern, h, hd1, hk9, e, ixK], hk', wg (by omega), g1, g2, g3⟩
        · have hq2 : decide ((pl : Int) = 1) = true := by rcases hv with hv | hv; exact absurd hv c6; simp -implicitDefEqProofs [hv.2]
          exact ⟨.group (k + 1) p, xs', k', by rw [eg]; simp -implicitDefEqProofs [c_law_pattern, h, hd1, c1, c2, c3, c4, c6, hq2, hk9, e, ixK], hk', wg (by omega), g1, g2, g3⟩
    have look : ∀ v : Int, (v = 10 ∧ k = 0) ∨ v = 11 → (pl : Int) ≠ 1 → S i_law_take [.own true (bxs xs), .d (.int 12)] = .ok (.d (.int v)) [.own true (bxs xs1), .d (.int 12)] → ∃ (p : Pat) (xs' : List Int) (k' : Nat), runF 4 8 (c_law_pattern S S') [.own true (bxs xs), .d (.lst (L3 a b c)), cnt k pl, .d (.int ((d : Int) + 1))] = .ok (.d (enc p)) [.own true (bxs xs'), .d (.lst (L3 a b c)), cnt k' pl, .d (.int ((d : Int) + 1))] ∧ k' ≤ 9 ∧ Wf (2 * (d + 1)) p ∧ num k p = some k' ∧ Bd k' p ∧ p.nd ≤ NB (d + 1) := by
      intro v hv hp h
      obtain ⟨lk, elk⟩ : ∃ lk : Look, itemK [D.str [111, 110, 99, 101], D.str [97, 104, 101, 97, 100], D.str [110, 111, 116, 97, 104, 101, 97, 100], D.str [98, 101, 104, 105, 110, 100], D.str [110, 111, 116, 98, 101, 104, 105, 110, 100]] u = some (.str lk.t) := by
        have : u = 0 ∨ u = 1 ∨ u = 2 ∨ u = 3 ∨ u = 4 := by omega
        rcases this with rfl | rfl | rfl | rfl | rfl
        · exact ⟨.once, rfl⟩
        · exact ⟨.ahead, rfl⟩
        · exact ⟨.notahead, rfl⟩
        · exact ⟨.behind, rfl⟩
        · exact ⟨.notbehind, rfl⟩
      obtain ⟨p, xs', k', e, hk', wp, gp, bp, np⟩ := ih' xs2 k hk
      have wg : Wf (2 * (d + 1)) (.look lk p) := by
        rw [show 2 * (d + 1) = (2 * d + 1) + 1 from rfl]
        simp only [Wf]
        exact wp.succ
      generalize hlt : lk.t = lt at *
      refine ⟨.look lk p, xs', k', ?_, hk', wg, by simpa [num] using gp, by simpa [Bd] using bp, by have := NB_one d; simp only [Pat.nd]; omega⟩
      rcases hv with ⟨rfl, hk0⟩ | rfl
      · have hk1 : ¬ (0 < k) := by omega
        simp -implicitDefEqProofs [c_law_pattern, h, hd1, hp, h2, elk, e, enc, hlt, hk1]
      · simp -implicitDefEqProofs [c_law_pattern, h, hd1, hp, h2, elk, e, enc, hlt]
    by_cases hp : (pl : Int) = 1 ∧ v ≥ 10
    · exact grp v (.inr ⟨hp.2, hp.1⟩) h
    rcases hv with rfl | rfl | rfl | rfl | rfl | rfl | rfl | rfl | rfl | rfl | rfl | rfl
    · exact ⟨pl_, xl, k, by simp -implicitDefEqProofs [c_law_pattern, h, hl, hd1], hk, wl, gl, bl, by rw [nl]; exact NB_pos _⟩
    · exact ⟨pl_, xl, k, by simp -implicitDefEqProofs [c_law_pattern, h, hl, hd1], hk, wl, gl, bl, by rw [nl]; exact NB_pos _⟩
    · by_cases hu : u = 1
      · subst hu
        exact ⟨.row [], xs2, k, by simp -implicitDefEqProofs [c_law_pattern, h, h2, hd1, enc, encs], hk, by rw [show 2 * (d + 1) = (2 * d + 1) + 1 from rfl]; simp -implicitDefEqProofs [Wf, Wfs], by simp -implicitDefEqProofs [num, nums], by simp -implicitDefEqProofs [Bd, Bds], by simp only [Pat.nd, nds]; exact NB_pos _⟩
      · obtain ⟨ps, xs', k', e, hk', l2, l3, wp, gp, bp, np⟩ := hparts xs2 false
        simp at e
        exact ⟨_, xs', k', by simp -implicitDefEqProofs [c_law_pattern, h, h2, hd1, hu, h4, e], hk', wparts false ps l2 l3 wp, by simpa [num] using gp, by simpa [Bd] using bp, by simpa [Pat.nd] using np⟩
    · obtain ⟨ps, xs', k', e, hk', l2, l3, wp, gp, bp, np⟩ := hparts xs1 false
      simp at e
      exact ⟨_, xs', k', by simp -implicitDefEqProofs [c_law_pattern, h, hd1, h4, e], hk', wparts false ps l2 l3 wp, by simpa [num] using gp, by simpa [Bd] using bp, by simpa [Pat.nd] using np⟩
    · obtain ⟨ps, xs', k', e, hk', l2, l3, wp, gp, bp, np⟩ := hparts xs1 true
      simp at e
      exact ⟨_, xs', k', by simp -implicitDefEqProofs [c_law_pattern, h, hd1, h4, e], hk', wparts true ps l2 l3 wp, by simpa [num] using gp, by simpa [Bd] using bp, by simpa [Pat.nd] using np⟩
    · obtain ⟨ps, xs', k', e, hk', l2, l3, wp, gp, bp, np⟩ := hparts xs1 true
      simp at e
      exact ⟨_, xs', k', by simp -implicitDefEqProofs [c_law_pattern, h, hd1, h4, e], hk', wparts true ps l2 l3 wp, by simpa [num] using gp, by simpa [Bd] using bp, by simpa [Pat.nd] using np⟩
    · obtain ⟨p, xs', k', e, hk', wp, gp, bp, np⟩ := htimes
      exact ⟨p, xs', k', by simp -implicitDefEqProofs [c_law_pattern, h, hd1, e], hk', wp, gp, bp, by have := NB_one d; omega⟩
    · obtain ⟨p, xs', k', e, hk', wp, gp, bp, np⟩ := htimes
      exact ⟨p, xs', k', by simp -implicitDefEqProofs [c_law_pattern, h, hd1, e], hk', wp, gp, bp, by have := NB_one d; omega⟩
    · obtain ⟨p, xs', k', e, hk', wp, gp, bp, np⟩ := htimes
      exact ⟨p, xs', k', by simp -implicitDefEqProofs [c_law_pattern, h, hd1, e], hk', wp, gp, bp, by have := NB_one d; omega⟩
    · exact grp 9 (.inl rfl) h
    · have hp : (pl : Int) ≠ 1 := fun z => hp ⟨z, by decide⟩
      by_cases hk0 : k = 0
      · exact look 10 (.inl ⟨rfl, hk0⟩) hp h
      · obtain ⟨w, xs3, h3, h30, h3k⟩ := htk k (by omega) (by omega)
        obtain ⟨p, xs4, k4, e4, hk4, wp, gp, bp, np⟩ := ih' xs3 k hk
        obtain ⟨q, xs5, k5, e5, hk5, wq, gq, bq, nq⟩ := ih' xs4 k4 hk4
        obtain ⟨w', rfl⟩ : ∃ w' : Nat, w = w' := ⟨w.toNat, by omega⟩
        have ehv : enc (.have_ (1 + w') p q) = .tup [.str [104, 97, 118, 101], .int (1 + (w' : Int)), enc p, enc q] := rfl
        refine ⟨.have_ (1 + w') p q, xs5, k5, ?_, hk5, ?_, by simp -implicitDefEqProofs [num, gp, gq], (by have := num_ng gp; have := num_ng gq; simp only [Bd]; exact ⟨by omega, by omega, bp.mono (by omega), bq⟩), by have := NB_two d; simp only [Pat.nd]; omega⟩
        · rw [ehv]
          have hk1 : 0 < k := by omega
          simp -implicitDefEqProofs [c_law_pattern, h, hd1, hp, hk1, h3, e4, e5]
        · rw [show 2 * (d + 1) = (2 * d + 1) + 1 from rfl]
          simp only [Wf]
          exact ⟨by omega, by omega, wp.succ, wq.succ⟩
    · exact look 11 (.inr rfl) (fun z => hp ⟨z, by decide⟩) h
end
end HT

namespace HT
open Sk
section
variable {a b c : Nat}
theorem comp_non (k : Nat) (hk : k ≤ 9) (x0 x1 x2 x3 x4 x5 x6 : A) : compL 7 (eC (.bl true)) (eC .non) (upTo 0 k) [] [x0, x1, x2, x3, x4, x5, x6, .un] = .ok (List.replicate k .non) [x0, x1, x2, x3, x4, x5, x6, .un] := by
  obtain ⟨acc, r, e, h1, h2⟩ := comp_nx (i := 7) (t := eC (.bl true)) (e := eC .non) (xs := upTo 0 k) (fun j acc r => acc = List.replicate j .non ∧ r = [x0, x1, x2, x3, x4, x5, x6, .un]) (acc := []) (r := [x0, x1, x2, x3, x4, x5, x6, .un]) ⟨rfl, rfl⟩ (by
    rintro j x acc r hx ⟨rfl, rfl⟩
    have hj := (get_upTo hx).2
    exact .inl ⟨_, _, _, rfl, rfl, fit1_of (by simp; omega), by simp -implicitDefEqProofs [List.replicate_succ'], rfl⟩)
  rw [len_upTo] at h1
  rw [e, h1, h2]
theorem drawn_ok (n : Nat) (ha : Sg a) (hb : Sg b) (hc : Sg c) (xs : List Int) (pl : Nat) : ∃ (p : Pat) (xs' : List Int) (k : Nat), sem codes (n + 11) i_law_drawn [.own true (bxs xs), .d (.lst (L3 a b c)), .d (.int pl)] = .ok (.d (.tup [enc p, .tup (List.replicate k .non)])) [.own true (bxs xs'), .d (.lst (L3 a b c)), .d (.int pl)] ∧ k ≤ 9 ∧ Wf 6 p ∧ num 0 p = some k ∧ Bd k p ∧ p.nd ≤ 60 := by
  rw [sem_c rfl]
  obtain ⟨p, xs1, k, e, hk, wp, gp, bp, np⟩ := pattern_ok (n := n) (pl := pl) ha hb hc 3 xs 0 (by omega)
  rw [show n + 2 * 3 + 4 = n + 10 from rfl] at e
  obtain ⟨v, xs2, h2, h20, h28⟩ := take_ok (n + 9) 8 (by decide) (by decide) xs1
  obtain ⟨v3, xs3, s, h3, e3, g3⟩ := drawsign_ok (n + 9) ha hb hc xs2
  obtain ⟨rs, xs4, h4, r1, r2, r3⟩ := runs_ok (n + 8) ha hb hc xs3
  obtain ⟨v5, xs5, h5, h50, h52⟩ := take_ok (n + 9) 2 (by decide) (by decide) xs4
  generalize sem codes (n + 10) = S at *
  generalize sem' codes (n + 10) = S' at *
  have e : S i_law_pattern [.own true (bxs xs), .d (.lst (L3 a b c)), .own true [.int 0, .int pl], .d (.int 3)] = .ok (.d (enc p)) [.own true (bxs xs1), .d (.lst (L3 a b c)), cnt k pl, .d (.int 3)] := e
  have hr : ∀ k : Nat, k ≤ 9 → okR (k : Int) := fun k h => okR_of (by omega) (by omega)
  have hr1 : okR 1 := okR_of (by decide) (by decide)
  have hf : ∀ k : Nat, k ≤ 9 → Fits k := fun k h => fits_of (by omega)
  by_cases hb1 : v = 1 ∧ (pl : Int) = 0
  · obtain ⟨rfl, hpl⟩ := hb1
    obtain rfl : pl = 0 := by omega
    have e : S i_law_pattern [.own true (bxs xs), .d (.lst (L3 a b c)), .own true [.int 0, .int 0], .d (.int 3)] = .ok (.d (enc p)) [.own true (bxs xs1), .d (.lst (L3 a b c)), .own true [.int k, .int 0], .d (.int 3)] := e
    obtain ⟨how, eh⟩ : ∃ how : How, itemK [D.str [109, 117, 99, 104], D.str [108, 105, 116, 116, 108, 101]] v5 = some (.str how.t) := by
      have : v5 = 0 ∨ v5 = 1 := by omega
      rcases this with rfl | rfl
      · exact ⟨.much, rfl⟩
      · exact ⟨.little, rfl⟩
    generalize hht : how.t = ht at *
    refine ⟨.times 0 none how (.alt [.row [.again 1, .sign s], .group 1 (.runs false rs)]), xs5, 1, ?_, by omega, ?_, by simp -implicitDefEqProofs [num, nums], by simp -implicitDefEqProofs [Bd, Bds], by simp -implicitDefEqProofs [Pat.nd, nds]⟩
    · have cp := comp_non 1 (by omega)
      simp -implicitDefEqProofs [c_law_drawn, e, h2, h3, e3, h4, h5, eh, ixK, hr1, cp, enc, encs, encH, hht]
    · have : ∀ r ∈ rs, Sg r.1 ∧ Sg r.2 ∧ r.1 ≤ r.2 := r3
      simp -implicitDefEqProofs [Wf, Wfs, g3, r1]
      exact ⟨by omega, fun x y h => r3 (x, y) h⟩
  · refine ⟨p, xs2, k, ?_, hk, wp, gp, bp, Nat.le_trans np (by decide)⟩
    have cp := comp_non k hk
    by_cases hv : v = 1
    · have hq : ¬ (pl = 0) := fun z => hb1 ⟨hv, by omega⟩
      simp -implicitDefEqProofs [c_law_drawn, e, h2, hv, hq, hr k hk, hf k hk, cp]
    · simp -implicitDefEqProofs [c_law_drawn, e, h2, hv, hr k hk, hf k hk, cp]
end
end HT

namespace HT
open Sk
/-! rows -/
inductive Row where
  | pat (p : Pat) | try_ (q : Nat) | go (z : Nat) | turns | turn (lo : Nat) (hi : Option Nat) (little : Bool) (z : Nat) | next (lo p : Nat)
  | open_ | close (k : Nat) | have_ (k q : Nat) | once | kept | peeked | bar (z : Nat) | barred | lean | here | found
def encRow : Row → D
  | .pat p => enc p
  | .try_ q => .tup [.str [116, 114, 121], .int q]
  | .go z => .tup [.str [103, 111], .int z]
  | .turns => .tup [.str [116, 117, 114, 110, 115]]
  | .turn lo hi l z => .tup [.str [116, 117, 114, 110], .int lo, encH hi, .str (if l then How.little.t else How.much.t), .int z]
  | .next lo p => .tup [.str [110, 101, 120, 116], .int lo, .int p]
  | .open_ => .tup [.str [111, 112, 101, 110]]
  | .close k => .tup [.str [99, 108, 111, 115, 101], .int k]
  | .have_ k q => .tup [.str [104, 97, 118, 101], .int k, .int q]
  | .once => .tup [.str [111, 110, 99, 101]]
  | .kept => .tup [.str [107, 101, 112, 116]]
  | .peeked => .tup [.str [112, 101, 101, 107, 101, 100]]
  | .bar z => .tup [.str [98, 97, 114], .int z]
  | .barred => .tup [.str [98, 97, 114, 114, 101, 100]]
  | .lean => .tup [.str [108, 101, 97, 110]]
  | .here => .tup [.str [104, 101, 114, 101]]
  | .found => .tup [.str [102, 111, 117, 110, 100]]
abbrev encRows (l : List Row) : List D := l.map encRow
mutual
/-- how many rows -/
def Pat.sz : Pat → Nat
  | .row ps => szs ps
  | .alt ps => szAlt ps
  | .times _ _ how p => p.sz + (if how = .keep then 5 else 3)
  | .group _ p => p.sz + 2
  | .have_ _ p q => p.sz + q.sz + 2
  | .look .behind p => p.sz + 4
  | .look .notbehind p => p.sz + 4
  | .look _ p => p.sz + 2
  | _ => 1
def szs : List Pat → Nat
  | [] => 0
  | p :: ps => p.sz + szs ps
def szAlt : List Pat → Nat
  | [] => 0
  | p :: ps => (match ps with
    | [] => p.sz
    | _ :: _ => p.sz + 2 + szAlt ps)
end
/-- the row behind a look -/
def Look.e : Look → Row
  | .once => .kept
  | .ahead => .peeked
  | .behind => .peeked
  | .notahead => .barred
  | .notbehind => .barred
mutual
/-- the rows of a pattern, the first one at the place a -/
def lay : Pat → Nat → List Row
  | .row ps, a => lays ps a
  | .alt ps, a => layAlt ps a (a + szAlt ps)
  | .times lo hi .keep p, a => .once :: .turns :: .turn lo hi false (a + 4 + p.sz) :: (lay p (a + 3) ++ [.next lo (a + 2), .kept])
  | .times lo hi .much p, a => .turns :: .turn lo hi false (a + 3 + p.sz) :: (lay p (a + 2) ++ [.next lo (a + 1)])
  | .times lo hi .little p, a => .turns :: .turn lo hi true (a + 3 + p.sz) :: (lay p (a + 2) ++ [.next lo (a + 1)])
  | .group k p, a => .open_ :: (lay p (a + 1) ++ [.close k])
  | .have_ k p q, a => .have_ k (a + p.sz + 2) :: (lay p (a + 1) ++ .go (a + p.sz + 2 + q.sz) :: lay q (a + p.sz + 2))
  | .look .once p, a => .once :: (lay p (a + 1) ++ [.kept])
  | .look .ahead p, a => .once :: (lay p (a + 1) ++ [.peeked])
  | .look .notahead p, a => .bar (a + p.sz + 2) :: (lay p (a + 1) ++ [.barred])
  | .look .behind p, a => .once :: .lean :: (lay p (a + 2) ++ [.here, .peeked])
  | .look .notbehind p, a => .bar (a + p.sz + 4) :: .lean :: (lay p (a + 2) ++ [.here, .barred])
  | .sign c, _ => [.pat (.sign c)]
  | .any, _ => [.pat .any]
  | .runs o rs, _ => [.pat (.runs o rs)]
  | .edge e, _ => [.pat (.edge e)]
  | .again n, _ => [.pat (.again n)]
def lays : List Pat → Nat → List Row
  | [], _ => []
  | p :: ps, a => lay p a ++ lays ps (a + p.sz)
def layAlt : List Pat → Nat → Nat → List Row
  | [], _, _ => []
  | p :: ps, a, z => (match ps with
    | [] => lay p a
    | _ :: _ => .try_ (a + p.sz + 2) :: (lay p (a + 1) ++ .go z :: layAlt ps (a + p.sz + 2) z))
end
mutual
theorem lay_len : ∀ (p : Pat) (a : Nat), (lay p a).length = p.sz
  | .row ps, a => by simp only [lay, Pat.sz]; exact lays_len ps a
  | .alt ps, a => by simp only [lay, Pat.sz]; exact layAlt_len ps a _
  | .times lo hi .keep p, a => by simp [lay, Pat.sz, lay_len p]
  | .times lo hi .much p, a => by simp [lay, Pat.sz, lay_len p]
  | .times lo hi .little p, a => by simp [lay, Pat.sz, lay_len p]
  | .group k p, a => by simp [lay, Pat.sz, lay_len p]
  | .have_ k p q, a => by simp [lay, Pat.sz, lay_len p, lay_len q]; omega
  | .look .once p, a => by simp [lay, Pat.sz, lay_len p]
  | .look .ahead p, a => by simp [lay, Pat.sz, lay_len p]
  | .look .notahead p, a => by simp [lay, Pat.sz, lay_len p]
  | .look .behind p, a => by simp [lay, Pat.sz, lay_len p]
  | .look .notbehind p, a => by simp [lay, Pat.sz, lay_len p]
  | .sign c, _ => rfl
  | .any, _ => rfl
  | .runs o rs, _ => rfl
  | .edge e, _ => rfl
  | .again n, _ => rfl
theorem lays_len : ∀ (ps : List Pat) (a : Nat), (lays ps a).length = szs ps
  | [], _ => rfl
  | p :: ps, a => by simp [lays, szs, lay_len p, lays_len ps]
theorem layAlt_len : ∀ (ps : List Pat) (a z : Nat), (layAlt ps a z).length = szAlt ps
  | [], _, _ => rfl
  | [p], a, z => by simp [layAlt, szAlt, lay_len p]
  | p :: q :: r, a, z => by
    have := layAlt_len (q :: r) (a + p.sz + 2) z
    simp only [layAlt, szAlt, List.length_cons, List.length_append, lay_len p] at this ⊢
    omega
end
mutual
theorem sz_nd : ∀ (p : Pat), p.sz + 2 ≤ 7 * p.nd
  | .row ps => by have := szs_nd ps; simp only [Pat.sz, Pat.nd]; omega
  | .alt ps => by have := szAlt_nd ps; simp only [Pat.sz, Pat.nd]; omega
  | .times lo hi how p => by have := sz_nd p; simp only [Pat.sz, Pat.nd]; split <;> omega
  | .group k p => by have := sz_nd p; simp only [Pat.sz, Pat.nd]; omega
  | .have_ k p q => by have := sz_nd p; have := sz_nd q; simp only [Pat.sz, Pat.nd]; omega
  | .look k p => by have := sz_nd p; cases k <;> simp only [Pat.sz, Pat.nd] <;> omega
  | .sign c => by simp [Pat.sz, Pat.nd]
  | .any => by simp [Pat.sz, Pat.nd]
  | .runs o rs => by simp [Pat.sz, Pat.nd]
  | .edge e => by simp [Pat.sz, Pat.nd]
  | .again n => by simp [Pat.sz, Pat.nd]
theorem szs_nd : ∀ (ps : List Pat), szs ps ≤ 7 * nds ps
  | [] => by simp [szs]
  | p :: ps => by have := sz_nd p; have := szs_nd ps; simp only [szs, nds]; omega
theorem szAlt_nd : ∀ (ps : List Pat), szAlt ps ≤ 7 * nds ps
  | [] => by simp [szAlt]
  | [p] => by have := sz_nd p; simp only [szAlt, nds]; omega
  | p :: q :: r => by have := sz_nd p; have := szAlt_nd (q :: r); simp only [szAlt, nds] at this ⊢; omega
end
end HT

namespace HT
open Sk
/-! the plain meaning -/
abbrev Gs := List (Option (Nat × Nat))
abbrev Way := Nat × Gs
def takes : Pat → Nat → Bool
  | .any, _ => true
  | .sign s, c => decide (s = c)
  | .runs o rs, c => (rs.any fun r => decide (r.1 ≤ c) && decide (c ≤ r.2)) != o
  | _, _ => false
def Pat.isOne : Pat → Bool
  | .any => true
  | .sign _ => true
  | .runs _ _ => true
  | _ => false
/-- what stands between two places -/
def seg (t : Txt) (p : Nat × Nat) : Txt := (t.drop p.1).take (p.2 - p.1)
/-- group k stood from i to j -/
def setG (g : Gs) (k i j : Nat) : Gs := g.take (k - 1) ++ [some (i, j)] ++ g.drop k
mutual
/-- the ways of a pattern from a place, by the plain meaning gone through whole; how many steps that took -/
inductive Ways (t : Txt) : Pat → Nat → Gs → List Way → Nat → Prop
  | one {p : Pat} {i : Nat} {g : Gs} : p.isOne = true → Ways t p i g (match t[i]? with
    | some c => if takes p c then [(i + 1, g)] else []
    | none => []) 1
  | edge {e : Bool} {i : Nat} {g : Gs} : Ways t (.edge e) i g (if i = (if e then t.length else 0) then [(i, g)] else []) 1
  | again {k i : Nat} {g : Gs} : Ways t (.again k) i g (match g[k - 1]? with
    | some (some pr) => if (t.drop i).take (seg t pr).length = seg t pr then [(i + (seg t pr).length, g)] else []
    | _ => []) 1
  | row {ps : List Pat} {i : Nat} {g : Gs} {ws : List Way} {s : Nat} : WRow t ps [(i, g)] ws s → Ways t (.row ps) i g ws (s + 1)
  | alt {ps : List Pat} {i : Nat} {g : Gs} {ws : List Way} {s : Nat} : WAlt t ps i g ws s → Ways t (.alt ps) i g ws (s + 1)
  | times {lo : Nat} {hi : Option Nat} {how : How} {p : Pat} {i : Nat} {g : Gs} {ws : List Way} {s : Nat} : WTurns t lo hi (decide (how = .little)) p 0 i g ws s → Ways t (.times lo hi how p) i g (if how = .keep then ws.take 1 else ws) (s + 1)
  | group {k : Nat} {p : Pat} {i : Nat} {g : Gs} {ws : List Way} {s : Nat} : Ways t p i g ws s → Ways t (.group k p) i g (ws.map fun w => (w.1, setG w.2 k i w.1)) (s + 1)
  | have_ {k : Nat} {p q : Pat} {i : Nat} {g : Gs} {ws : List Way} {s : Nat} : Ways t (if (g[k - 1]?.getD none).isNone then q else p) i g ws s → Ways t (.have_ k p q) i g ws (s + 1)
  | once {p : Pat} {i : Nat} {g : Gs} {ws : List Way} {s : Nat} : Ways t p i g ws s → Ways t (.look .once p) i g (ws.take 1) (s + 1)
  | ahead {p : Pat} {i : Nat} {g : Gs} {ws : List Way} {s : Nat} : Ways t p i g ws s → Ways t (.look .ahead p) i g ((ws.take 1).map fun w => (i, w.2)) (s + 1)
  | notahead {p : Pat} {i : Nat} {g : Gs} {ws : List Way} {s : Nat} : Ways t p i g ws s → Ways t (.look .notahead p) i g (if ws = [] then [(i, g)] else []) (s + 1)
  | behind {p : Pat} {i : Nat} {g : Gs} {ws : List Way} {s : Nat} : WBeh t p i i g ws s → Ways t (.look .behind p) i g ((ws.take 1).map fun w => (i, w.2)) (s + 1)
  | notbehind {p : Pat} {i : Nat} {g : Gs} {ws : List Way} {s : Nat} : WBeh t p i i g ws s → Ways t (.look .notbehind p) i g (if ws = [] then [(i, g)] else []) (s + 1)
inductive WRow (t : Txt) : List Pat → List Way → List Way → Nat → Prop
  | nil {ws : List Way} : WRow t [] ws ws 0
  | cons {p : Pat} {ps : List Pat} {ws vs us : List Way} {s1 s2 : Nat} : WEach t p ws vs s1 → WRow t ps vs us s2 → WRow t (p :: ps) ws us (s1 + s2)
inductive WEach (t : Txt) : Pat → List Way → List Way → Nat → Prop
  | nil {p : Pat} : WEach t p [] [] 0
  | cons {p : Pat} {w : Way} {ws vs us : List Way} {s1 s2 : Nat} : Ways t p w.1 w.2 vs s1 → WEach t p ws us s2 → WEach t p (w :: ws) (vs ++ us) (s1 + s2)
inductive WAlt (t : Txt) : List Pat → Nat → Gs → List Way → Nat → Prop
  | nil {i : Nat} {g : Gs} : WAlt t [] i g [] 0
  | cons {p : Pat} {ps : List Pat} {i : Nat} {g : Gs} {vs us : List Way} {s1 s2 : Nat} : Ways t p i g vs s1 → WAlt t ps i g us s2 → WAlt t (p :: ps) i g (vs ++ us) (s1 + s2)
inductive WTurns (t : Txt) : Nat → Option Nat → Bool → Pat → Nat → Nat → Gs → List Way → Nat → Prop
  | stop {lo h : Nat} {lit : Bool} {p : Pat} {n j : Nat} {g : Gs} : ¬ n < h → WTurns t lo (some h) lit p n j g (if n < lo then [] else [(j, g)]) 1
  | go {lo : Nat} {hi : Option Nat} {lit : Bool} {p : Pat} {n j : Nat} {g : Gs} {vs us : List Way} {s1 s2 : Nat} : (∀ h, hi = some h → n < h) → Ways t p j g vs s1 → WTEach t lo hi lit p n j vs us s2 → WTurns t lo hi lit p n j g (if n < lo then us else if lit then (j, g) :: us else us ++ [(j, g)]) (s1 + s2 + 1)
inductive WTEach (t : Txt) : Nat → Option Nat → Bool → Pat → Nat → Nat → List Way → List Way → Nat → Prop
  | nil {lo : Nat} {hi : Option Nat} {lit : Bool} {p : Pat} {n j : Nat} : WTEach t lo hi lit p n j [] [] 0
  | skip {lo : Nat} {hi : Option Nat} {lit : Bool} {p : Pat} {n j : Nat} {w : Way} {ws us : List Way} {s : Nat} : ¬ (n < lo ∨ j < w.1) → WTEach t lo hi lit p n j ws us s → WTEach t lo hi lit p n j (w :: ws) us s
  | cons {lo : Nat} {hi : Option Nat} {lit : Bool} {p : Pat} {n j : Nat} {w : Way} {ws vs us : List Way} {s1 s2 : Nat} : (n < lo ∨ j < w.1) → WTurns t lo hi lit p (n + 1) w.1 w.2 vs s1 → WTEach t lo hi lit p n j ws us s2 → WTEach t lo hi lit p n j (w :: ws) (vs ++ us) (s1 + s2)
/-- from the place k down to 0: the ways that end at i of the first place that has such -/
inductive WBeh (t : Txt) : Pat → Nat → Nat → Gs → List Way → Nat → Prop
  | hit {p : Pat} {i k : Nat} {g : Gs} {vs : List Way} {s : Nat} : Ways t p k g vs s → vs.filter (fun w => decide (w.1 = i)) ≠ [] → WBeh t p i k g (vs.filter fun w => decide (w.1 = i)) s
  | last {p : Pat} {i : Nat} {g : Gs} {vs : List Way} {s : Nat} : Ways t p 0 g vs s → vs.filter (fun w => decide (w.1 = i)) = [] → WBeh t p i 0 g [] s
  | miss {p : Pat} {i k : Nat} {g : Gs} {vs us : List Way} {s1 s2 : Nat} : Ways t p (k + 1) g vs s1 → vs.filter (fun w => decide (w.1 = i)) = [] → WBeh t p i k g us s2 → WBeh t p i (k + 1) g us (s1 + s2)
end
end HT

namespace HT
open Sk
/-! texts of patterns -/
def special : Txt := [92, 46, 91, 93, 40, 41, 123, 125, 60, 62, 124, 94, 36, 38, 126]
def within : Txt := [92, 91, 93, 94, 45]
def sgn (sp : Txt) (c : Nat) : Txt := if c ∈ sp then [92, c] else [c]
def rn (r : Nat × Nat) : Txt := sgn within r.1 ++ if r.1 = r.2 then [] else 45 :: sgn within r.2
def hiT : Option Nat → Txt
  | none => []
  | some h => [48 + h]
def How.m : How → Txt
  | .much => []
  | .little => [63]
  | .keep => [33]
def Look.m : Look → Nat
  | .once => 33
  | .ahead => 43
  | .notahead => 45
  | .behind => 42
  | .notbehind => 47
def Pat.isAlt : Pat → Bool
  | .alt _ => true
  | _ => false
def Pat.isCmp : Pat → Bool
  | .alt _ => true
  | .row _ => true
  | .times _ _ _ _ => true
  | _ => false
def wrapT (b : Bool) (t : Txt) : Txt := if b then 60 :: 58 :: (t ++ [62]) else t
mutual
def wr : Pat → Txt
  | .sign c => sgn special c
  | .any => [46]
  | .runs o rs => (if o then [91, 94] else [91]) ++ ((rs.map rn).flatten ++ [93])
  | .edge e => [if e then 36 else 94]
  | .again n => [38, 48 + n]
  | .row ps => (wrI ps).flatten
  | .alt ps => joinT [124] (wrs ps)
  | .times lo hi how p => wrapT p.isCmp (wr p) ++ 123 :: (48 + lo) :: 44 :: (hiT hi ++ (how.m ++ [125]))
  | .group _ p => 40 :: (wr p ++ [41])
  | .have_ k p q => 60 :: (48 + k) :: (wr p ++ 126 :: (wr q ++ [62]))
  | .look k p => 60 :: k.m :: (wr p ++ [62])
def wrs : List Pat → List Txt
  | [] => []
  | p :: ps => wr p :: wrs ps
def wrI : List Pat → List Txt
  | [] => []
  | p :: ps => wrapT p.isAlt (wr p) :: wrI ps
end
theorem joinT_flat : ∀ l : List Txt, joinT [] l = l.flatten
  | [] => rfl
  | [x] => by simp [joinT]
  | x :: y :: r => by
    have := joinT_flat (y :: r)
    show x ++ ([] ++ joinT [] (y :: r)) = _
    rw [this]; simp
theorem joinT_le (sep : Txt) : ∀ xs : List Txt, (joinT sep xs).length ≤ (xs.map List.length).sum + xs.length * sep.length
  | [] => by simp [joinT]
  | [x] => by simp [joinT]
  | x :: y :: r => by
    have ih := joinT_le sep (y :: r)
    show (x ++ (sep ++ joinT sep (y :: r))).length ≤ _
    rw [List.length_append, List.length_append, List.map_cons, List.sum_cons]
    have : (x :: y :: r).length * sep.length = sep.length + (y :: r).length * sep.length := by rw [List.length_cons, Nat.add_mul]; omega
    rw [this]
    omega
theorem sgn_le (sp : Txt) (c : Nat) : (sgn sp c).length ≤ 2 := by unfold sgn; split <;> simp
theorem rn_le (r : Nat × Nat) : (rn r).length ≤ 5 := by
  have h1 := sgn_le within r.1
  have h2 := sgn_le within r.2
  unfold rn
  split <;> simp <;> omega
theorem runs_le : ∀ rs : List (Nat × Nat), (rs.map rn).flatten.length ≤ 5 * rs.length
  | [] => by simp
  | r :: rs => by
    have := rn_le r
    have := runs_le rs
    simp only [List.map_cons, List.flatten_cons, List.length_append, List.length_cons]
    omega
theorem wrap_le (b : Bool) (t : Txt) : (wrapT b t).length ≤ t.length + 3 := by unfold wrapT; split <;> simp
theorem wrs_len : ∀ ps : List Pat, (wrs ps).length = ps.length
  | [] => rfl
  | p :: ps => by simp [wrs, wrs_len ps]
mutual
theorem wr_le : ∀ {d : Nat} {p : Pat}, Wf d p → (wr p).length + 4 ≤ 100 * p.nd
  | d, .row ps, h => by
    simp only [wr, Pat.nd]
    cases d with
    | zero => simp [Wf] at h; rw [h.2]; simp [wrI]; omega
    | succ d => simp only [Wf] at h; have := wrI_le h.2; omega
  | d, .alt ps, h => by
    simp only [wr, Pat.nd]
    cases d with
    | zero => simp [Wf] at h
    | succ d =>
      simp only [Wf] at h
      have h1 := wrs_le h.2.2
      have h2 := joinT_le [124] (wrs ps)
      have h3 := wrs_len ps
      simp only [List.length_singleton] at h2
      omega
  | d, .times lo hi how p, h => by
    simp only [wr, Pat.nd]
    cases d with
    | zero => simp [Wf] at h
    | succ d =>
      simp only [Wf] at h
      have h1 := wr_le h.2.2
      have h2 := wrap_le p.isCmp (wr p)
      have h3 : (hiT hi).length ≤ 1 := by cases hi <;> simp [hiT]
      have h4 : how.m.length ≤ 1 := by cases how <;> simp [How.m]
      simp; omega
  | d, .group k p, h => by
    simp only [wr, Pat.nd]
    cases d with
    | zero => simp [Wf] at h
    | succ d =>
      simp only [Wf] at h
      have h1 := wr_le h.2.2
      simp; omega
  | d, .have_ k p q, h => by
    simp only [wr, Pat.nd]
    cases d with
    | zero => simp [Wf] at h
    | succ d =>
      simp only [Wf] at h
      have h1 := wr_le h.2.2.1
      have h2 := wr_le h.2.2.2
      simp; omega
  | d, .look k p, h => by
    simp only [wr, Pat.nd]
    cases d with
    | zero => simp [Wf] at h
    | succ d =>
      simp only [Wf] at h
      have h1 := wr_le h
      simp; omega
  | d, .sign c, h => by have := sgn_le special c; simp only [wr, Pat.nd]; omega
  | d, .any, h => by simp [wr, Pat.nd]
  | d, .runs o rs, h => by
    simp only [Wf] at h
    have := runs_le rs
    simp only [wr, Pat.nd]
    cases o <;> simp <;> simp at this <;> omega
  | d, .edge e, h => by simp [wr, Pat.nd]
  | d, .again n, h => by simp [wr, Pat.nd]
theorem wrs_le : ∀ {d : Nat} {ps : List Pat}, Wfs d ps → ((wrs ps).map List.length).sum + 4 * ps.length ≤ 100 * nds ps
  | _, [], _ => by simp [wrs, nds]
  | d, p :: ps, h => by
    simp only [Wfs] at h
    have h1 := wr_le h.1
    have h2 := wrs_le h.2
    simp only [wrs, nds, List.map_cons, List.sum_cons, List.length_cons]
    omega
theorem wrI_le : ∀ {d : Nat} {ps : List Pat}, Wfs d ps → (wrI ps).flatten.length ≤ 100 * nds ps
  | _, [], _ => by simp [wrI]
  | d, p :: ps, h => by
    simp only [Wfs] at h
    have h1 := wr_le h.1
    have h2 := wrI_le h.2
    have h3 := wrap_le p.isAlt (wr p)
    simp only [wrI, nds, List.flatten_cons, List.length_append]
    omega
end
theorem encs_map : ∀ ps : List Pat, encs ps = ps.map enc
  | [] => rfl
  | p :: ps => by simp [encs, encs_map ps]
theorem wrs_map : ∀ ps : List Pat, wrs ps = ps.map wr
  | [] => rfl
  | p :: ps => by simp [wrs, wrs_map ps]
theorem wrI_map : ∀ ps : List Pat, wrI ps = ps.map fun p => wrapT p.isAlt (wr p)
  | [] => rfl
  | p :: ps => by simp [wrI, wrI_map ps]
/-- a comprehension whose steps only read -/
theorem compL_map {α : Type} {i : Nat} {e : EV} {f g : α → D} {r : Slots} (hi : r[i]? = some .un) : ∀ (xs : List α) (acc : List D), acc.length + xs.length ≤ 1000000 → (∀ x ∈ xs, e (r.set i (.d (f x))) = .ok (.d (g x)) (r.set i (.d (f x)))) → compL i (eC (.bl true)) e (xs.map f) acc r = .ok (acc ++ xs.map g) r
  | [], acc, _, _ => by simp
  | x :: xs, acc, hl, h => by
    have h1 := h x List.mem_cons_self
    have hf : Fit1 acc.length := fit1_of (by simp at hl; omega)
    have hlt : i < r.length := (List.getElem?_eq_some_iff.mp hi).1
    have hset : (r.set i (.d (f x))).set i .un = r := by
      rw [List.set_set]
      apply List.ext_getElem? 
      intro j
      by_cases hj : j = i
      · subst hj; rw [List.getElem?_set_self hlt, hi]
      · rw [List.getElem?_set_ne (Ne.symm hj)]
    have ih := compL_map (f := f) (g := g) hi xs (acc ++ [g x]) (by simp at hl ⊢; omega) fun y hy => h y (List.mem_cons_of_mem _ hy)
    rw [List.map_cons]
    unfold compL
    simp only [tst, eC, Res.bind_ok, h1, if_pos hf, hset, ih]
    simp
theorem allStr_map : ∀ l : List Txt, allStr (l.map D.str) = some l
  | [] => rfl
  | x :: r => by
    show (allStr (r.map D.str)).map (x :: ·) = _
    rw [allStr_map r]; rfl
theorem opJoin_ok (sep : Txt) (l : List Txt) (h : (l.map List.length).sum + l.length * sep.length ≤ 1000000) : opJoin sep (.lst (l.map D.str)) = some (.str (joinT sep l)) := by
  have hf : Fits ((l.map List.length).sum + l.length * sep.length) := fits_of h
  simp only [opJoin, allStr_map, Option.bind_some, okSz]
  rw [if_pos hf]
end HT

namespace HT
open Sk
def encP2 (p : Nat × Nat) : D := .tup [.int p.1, .int p.2]
def encO : Option (Nat × Nat) → D
  | none => .non
  | some p => encP2 p
def encGs (g : Gs) : D := .tup (g.map encO)
def encW (w : Way) : D := .tup [.int w.1, encGs w.2]
abbrev encWs (ws : List Way) : List D := ws.map encW
/-- ways from i in a text, with K groups -/
def Good (t : Txt) (K i : Nat) (ws : List Way) : Prop := ∀ w ∈ ws, i ≤ w.1 ∧ w.1 ≤ t.length ∧ w.2.length = K
theorem Good.nil {t : Txt} {K i : Nat} : Good t K i [] := fun w h => by cases h
theorem Good.app {t : Txt} {K i : Nat} {ws vs : List Way} (h : Good t K i ws) (k : Good t K i vs) : Good t K i (ws ++ vs) := fun w hw => by
  rcases List.mem_append.mp hw with hw | hw
  · exact h w hw
  · exact k w hw
theorem Good.mono {t : Txt} {K i j : Nat} {ws : List Way} (h : Good t K i ws) (k : j ≤ i) : Good t K j ws := fun w hw => ⟨Nat.le_trans k (h w hw).1, (h w hw).2⟩
theorem Good.one {t : Txt} {K i j : Nat} {g : Gs} (h1 : i ≤ j) (h2 : j ≤ t.length) (h3 : g.length = K) : Good t K i [(j, g)] := fun w hw => by
  rw [List.mem_singleton.mp hw]; exact ⟨h1, h2, h3⟩
theorem Good.take {t : Txt} {K i n : Nat} {ws : List Way} (h : Good t K i ws) : Good t K i (ws.take n) := fun w hw => h w (List.mem_of_mem_take hw)
theorem Good.filter {t : Txt} {K i : Nat} {ws : List Way} {f : Way → Bool} (h : Good t K i ws) : Good t K i (ws.filter f) := fun w hw => h w (List.mem_filter.mp hw).1
/-- what a run of the plain meaning tells: L steps are left ahead of it, L' behind -/
structure Post (t : Txt) (K i : Nat) (L : Int) (ws : List Way) (L' : Int) (W : Nat → Prop) : Prop where
  le : L' ≤ L
  len : ws.length + L'.toNat ≤ L.toNat
  good : Good t K i ws
  ways : 0 ≤ L' → W (L - L').toNat
/-- a comprehension with a test -/
theorem compL_filter {α : Type} {i : Nat} {t e : EV} {f g : α → D} {b : α → Bool} {r : Slots} (hi : r[i]? = some .un) : ∀ (xs : List α) (acc : List D), acc.length + xs.length ≤ 1000000 → (∀ x ∈ xs, tst t (r.set i (.d (f x))) = .ok (b x) (r.set i (.d (f x))) ∧ e (r.set i (.d (f x))) = .ok (.d (g x)) (r.set i (.d (f x)))) → compL i t e (xs.map f) acc r = .ok (acc ++ (xs.filter b).map g) r
  | [], acc, _, _ => by simp
  | x :: xs, acc, hl, h => by
    obtain ⟨h0, h1⟩ := h x List.mem_cons_self
    have hf : Fit1 acc.length := fit1_of (by simp at hl; omega)
    have hlt : i < r.length := (List.getElem?_eq_some_iff.mp hi).1
    have hset : (r.set i (.d (f x))).set i .un = r := by
      rw [List.set_set]
      apply List.ext_getElem? 
      intro j
      by_cases hj : j = i
      · subst hj; rw [List.getElem?_set_self hlt, hi]
      · rw [List.getElem?_set_ne (Ne.symm hj)]
    rw [List.map_cons]
    unfold compL
    cases hb : b x with
    | true =>
      rw [hb] at h0
      have ih := compL_filter (b := b) (f := f) (g := g) hi xs (acc ++ [g x]) (by simp at hl ⊢; omega) fun y hy => h y (List.mem_cons_of_mem _ hy)
      simp only [h0, h1, if_pos hf, hset, ih]
      simp [hb]
    | false =>
      rw [hb] at h0
      have ih := compL_filter (b := b) (f := f) (g := g) hi xs acc (by simp at hl ⊢; omega) fun y hy => h y (List.mem_cons_of_mem _ hy)
      simp only [h0, hset, ih]
      simp [hb]
@[simp] theorem eqD_ls (l : List D) : eqD (.lst l) (.lst []) = some l.isEmpty := by cases l <;> rfl
theorem cut_take {α : Type} (l : List α) : Sk.cut l none (some 1) = l.take 1 := by
  unfold Sk.cut
  simp only [Sk.sIx, List.drop_zero, Nat.sub_zero]
  rw [if_neg (by omega)]
  cases l with
  | nil => simp
  | cons x l => simp
theorem cut_nat {α : Type} (l : List α) (a b : Nat) : Sk.cut l (some (a : Int)) (some (b : Int)) = (l.drop a).take (b - a) := by
  unfold Sk.cut
  simp only [Sk.sIx]
  rw [if_neg (by omega), if_neg (by omega)]
  simp only [Int.toNat_natCast]
  by_cases ha : a ≤ l.length
  · rw [Nat.min_eq_left ha]
    by_cases hb : b ≤ l.length
    · rw [Nat.min_eq_left hb]
    · rw [Nat.min_eq_right (by omega), List.take_of_length_le (by simp), List.take_of_length_le (by simp; omega)]
  · rw [Nat.min_eq_right (by omega : l.length ≤ a), List.drop_of_length_le (Nat.le_refl _), List.drop_of_length_le (by omega)]
    simp
theorem cut_to {α : Type} (l : List α) (b : Nat) : Sk.cut l none (some (b : Int)) = l.take b := by
  unfold Sk.cut
  simp only [Sk.sIx, List.drop_zero, Nat.sub_zero]
  rw [if_neg (by omega)]
  simp only [Int.toNat_natCast]
  by_cases hb : b ≤ l.length
  · rw [Nat.min_eq_left hb]
  · rw [Nat.min_eq_right (by omega), List.take_of_length_le (Nat.le_refl _), List.take_of_length_le (by omega)]
theorem cut_from {α : Type} (l : List α) (a : Nat) : Sk.cut l (some (a : Int)) none = l.drop a := by
  unfold Sk.cut
  simp only [Sk.sIx]
  rw [if_neg (by omega)]
  simp only [Int.toNat_natCast]
  by_cases ha : a ≤ l.length
  · rw [Nat.min_eq_left ha, List.take_of_length_le (by simp)]
  · rw [Nat.min_eq_right (by omega : l.length ≤ a), List.drop_of_length_le (Nat.le_refl _), List.drop_of_length_le (by omega)]
    simp
end HT

namespace HT
open Sk
namespace Rd
/-! the reader of patterns' texts: its fields: the text, the place, the groups opened -/
def rd (T : Txt) (i G : Int) : List (String × F) := [("text", .d (.str T)), ("at", .d (.int i)), ("groups", .d (.int G))]
section
variable (T : Txt) (i G : Int)
@[simp] theorem rd_len : (rd T i G).length = 3 := rfl
@[simp] theorem rd_text : (rd T i G).lookup "text" = some (.d (.str T)) := by simp [rd, List.lookup]
@[simp] theorem rd_at : (rd T i G).lookup "at" = some (.d (.int i)) := by simp [rd, List.lookup]
@[simp] theorem rd_groups : (rd T i G).lookup "groups" = some (.d (.int G)) := by simp [rd, List.lookup]
@[simp] theorem rd_ahead : (rd T i G).lookup "ahead" = none := by simp [rd, List.lookup]
@[simp] theorem rd_take : (rd T i G).lookup "take" = none := by simp [rd, List.lookup]
@[simp] theorem rd_want : (rd T i G).lookup "want" = none := by simp [rd, List.lookup]
@[simp] theorem rd_figure : (rd T i G).lookup "figure" = none := by simp [rd, List.lookup]
@[simp] theorem rd_whole : (rd T i G).lookup "whole" = none := by simp [rd, List.lookup]
@[simp] theorem rd_branch : (rd T i G).lookup "branch" = none := by simp [rd, List.lookup]
@[simp] theorem rd_turned : (rd T i G).lookup "turned" = none := by simp [rd, List.lookup]
@[simp] theorem rd_one : (rd T i G).lookup "one" = none := by simp [rd, List.lookup]
@[simp] theorem rd_bracket : (rd T i G).lookup "bracket" = none := by simp [rd, List.lookup]
@[simp] theorem rd_signs : (rd T i G).lookup "signs" = none := by simp [rd, List.lookup]
@[simp] theorem rd_within : (rd T i G).lookup "within" = none := by simp [rd, List.lookup]
@[simp] theorem rp_at (x : Int) : putFl "at" (.d (.int x)) (rd T i G) = rd T x G := by simp [rd]
@[simp] theorem rp_groups (x : Int) : putFl "groups" (.d (.int x)) (rd T i G) = rd T i x := by simp [rd]
end
abbrev rs (T : Txt) (i G : Int) : A := .ins true "Reader" (rd T i G)
theorem drop_go {T w rest : Txt} {i : Nat} (h : T.drop i = w ++ rest) : T.drop (i + w.length) = rest := by
  rw [← List.drop_drop, h, List.drop_left]
theorem drop_one {T rest : Txt} {i c : Nat} (h : T.drop i = c :: rest) : T.drop (i + 1) = rest := drop_go (w := [c]) h
end Rd
end HT

namespace HT
open Sk
namespace Rd
theorem ahead_ok (m : Nat) (T : Txt) (i G : Nat) : sem codes (m + 1) i_Reader_ahead [rs T i G] = .ok (.d (.str ((T.drop i).take 1))) [rs T i G] := by
  rw [sem_c rfl]
  have hc := cut_nat T i (i + 1)
  rw [show i + 1 - i = 1 by omega] at hc
  have hc : Sk.cut T (some (i : Int)) (some ((i : Int) + 1)) = (T.drop i).take 1 := hc
  generalize sem codes m = S
  generalize sem' codes m = S'
  generalize (T.drop i).take 1 = Z at *
  simp -implicitDefEqProofs [c_Reader_ahead, hc]
theorem take_ok (m : Nat) {T rest : Txt} {i c : Nat} (G : Nat) (h : T.drop i = c :: rest) : sem codes (m + 2) i_Reader_take [rs T i G] = .ok (.d (.str [c])) [rs T (i + 1) G] := by
  have h1 := ahead_ok m T i G
  rw [h] at h1
  have h1 : sem codes (m + 1) i_Reader_ahead [rs T i G] = .ok (.d (.str [c])) [rs T i G] := h1
  rw [sem_c rfl]
  generalize sem codes (m + 1) = S at *
  generalize sem' codes (m + 1) = S' at *
  simp -implicitDefEqProofs [c_Reader_take, h1]
theorem want_ok (m : Nat) {T rest : Txt} {i c : Nat} (G : Nat) (h : T.drop i = c :: rest) : sem codes (m + 3) i_Reader_want [rs T i G, .d (.str [c])] = .ok (.d .non) [rs T (i + 1) G, .d (.str [c])] := by
  have h1 := take_ok m G h
  rw [sem_c rfl]
  generalize sem codes (m + 2) = S at *
  generalize sem' codes (m + 2) = S' at *
  simp -implicitDefEqProofs [c_Reader_want, h1]
theorem figure_ok (m : Nat) {T rest : Txt} {i k : Nat} (G : Nat) (hk : k ≤ 9) (h : T.drop i = (48 + k) :: rest) : sem codes (m + 3) i_Reader_figure [rs T i G] = .ok (.d (.int k)) [rs T (i + 1) G] := by
  have h1 := take_ok m G h
  rw [sem_c rfl]
  generalize sem codes (m + 2) = S at *
  generalize sem' codes (m + 2) = S' at *
  have hk : k = 0 ∨ k = 1 ∨ k = 2 ∨ k = 3 ∨ k = 4 ∨ k = 5 ∨ k = 6 ∨ k = 7 ∨ k = 8 ∨ k = 9 := by omega
  rcases hk with rfl | rfl | rfl | rfl | rfl | rfl | rfl | rfl | rfl | rfl <;> simp -implicitDefEqProofs [c_Reader_figure, h1]
theorem within_ok (m : Nat) {T rest : Txt} {i c : Nat} (G : Nat) (h : T.drop i = sgn within c ++ rest) : sem codes (m + 3) i_Reader_within [rs T i G] = .ok (.d (.str [c])) [rs T ((i + (sgn within c).length : Nat) : Int) G] := by
  rw [sem_c rfl]
  unfold sgn at *
  by_cases hc : c ∈ within
  · rw [if_pos hc] at h ⊢
    have h1 := take_ok m G (show T.drop i = 92 :: (c :: rest) from h)
    have h2 := take_ok m G (drop_one (show T.drop i = 92 :: (c :: rest) from h))
    rw [show ((i + ([92, c] : Txt).length : Nat) : Int) = ((i + 1 : Nat) : Int) + 1 from rfl]
    have h1 : sem codes (m + 2) i_Reader_take [rs T i G] = .ok (.d (.str [92])) [rs T ((i + 1 : Nat) : Int) G] := h1
    generalize ((i + 1 : Nat) : Int) = J at *
    generalize sem codes (m + 2) = S at *
    generalize sem' codes (m + 2) = S' at *
    simp [within] at hc
    rcases hc with rfl | rfl | rfl | rfl | rfl <;> simp -implicitDefEqProofs [c_Reader_within, h1, h2]
  · rw [if_neg hc] at h ⊢
    have h1 := take_ok m G (show T.drop i = c :: rest from h)
    rw [show ((i + ([c] : Txt).length : Nat) : Int) = (i : Int) + 1 from rfl]
    generalize sem codes (m + 2) = S at *
    generalize sem' codes (m + 2) = S' at *
    simp [within] at hc
    simp -implicitDefEqProofs [c_Reader_within, h1, hc]
end Rd
end HT

namespace HT
open Sk
namespace Rd
/-- the sign that a run's text begins with -/
def hd1 (c : Nat) : Nat := if c ∈ within then 92 else c
theorem sgn_hd (c : Nat) : ∃ tl, sgn within c = hd1 c :: tl := by
  unfold sgn hd1
  split
  · exact ⟨[c], rfl⟩
  · exact ⟨[], rfl⟩
theorem hd1_not (c : Nat) : hd1 c ≠ 45 ∧ hd1 c ≠ 93 ∧ hd1 c ≠ 94 := by
  unfold hd1
  split
  · decide
  · rename_i h
    simp [within] at h
    exact ⟨h.2.2.2.2, h.2.2.1, h.2.2.2.1⟩
theorem runs_hd (rs : List (Nat × Nat)) (rest : Txt) : ∃ c tl, (rs.map rn).flatten ++ 93 :: rest = c :: tl ∧ c ≠ 45 ∧ c ≠ 94 ∧ (rs = [] → c = 93) ∧ (rs ≠ [] → c ≠ 93) := by
  cases rs with
  | nil => exact ⟨93, rest, rfl, by decide, by decide, fun _ => rfl, fun h => absurd rfl h⟩
  | cons r l =>
    obtain ⟨tl, h⟩ := sgn_hd r.1
    obtain ⟨n1, n2, n3⟩ := hd1_not r.1
    refine ⟨hd1 r.1, tl ++ ((if r.1 = r.2 then [] else 45 :: sgn within r.2) ++ ((l.map rn).flatten ++ 93 :: rest)), ?_, n1, n3, (fun z => by cases z), fun _ => n2⟩
    simp only [List.map_cons, List.flatten_cons, rn]
    rw [h]
    simp
noncomputable abbrev sT (S : Nat → FSem) : EV := eOp opNe (eMeth "Reader" "ahead" (S i_Reader_ahead) (eVar 0) aNil) (eC (.str [93]))
theorem ahead1 (m : Nat) {T tl : Txt} {i c : Nat} (G : Nat) (h : T.drop i = c :: tl) : sem codes (m + 1) i_Reader_ahead [rs T i G] = .ok (.d (.str [c])) [rs T i G] := by
  have := ahead_ok m T i G
  rw [h] at this
  exact this
theorem signs_loop (m : Nat) (T : Txt) (G : Nat) (w : D) (rest : Txt) : ∀ (l : List (Nat × Nat)) (i : Nat) (acc : List D) (y3 y4 : A), freeA y3 = true → freeA y4 = true → acc.length + l.length ≤ 1000 → T.drop i = (l.map rn).flatten ++ 93 :: rest →
    ∃ N y3' y4', freeA y3' = true ∧ freeA y4' = true ∧ whileN (sT (sem codes (m + 3))) (l_Reader_signs_1 (sem codes (m + 3)) (sem' codes (m + 3))) N [rs T i G, .d w, .own false acc, y3, y4] = .nx [rs T ((i + (l.map rn).flatten.length : Nat) : Int) G, .d w, .own false (acc ++ l.map encR), y3', y4']
  | [], i, acc, y3, y4, h3, h4, hl, h => by
    have ha := ahead1 (m + 2) G (show T.drop i = 93 :: rest from h)
    refine ⟨1, y3, y4, h3, h4, ?_⟩
    rw [whileN_end (r1 := [rs T i G, .d w, .own false acc, y3, y4]) (by
      generalize sem codes (m + 3) = S at *
      simp -implicitDefEqProofs [ha])]
    simp
  | r :: l, i, acc, y3, y4, h3, h4, hl, h => by
    have hfl : ((r :: l).map rn).flatten ++ 93 :: rest = sgn within r.1 ++ ((if r.1 = r.2 then [] else 45 :: sgn within r.2) ++ ((l.map rn).flatten ++ 93 :: rest)) := by simp [rn]
    obtain ⟨c0, tl0, e0, _, _, _, k0⟩ := runs_hd (r :: l) rest
    have ha := ahead1 (m + 2) G (h.trans e0)
    have k0 := k0 (by simp)
    have h1 := within_ok m G (h.trans hfl)
    have d1 := drop_go (h.trans hfl)
    have hf : Fit1 acc.length := fit1_of (by simp at hl; omega)
    obtain ⟨lo, hi⟩ := r
    simp only at h1 d1
    by_cases he : lo = hi
    · subst he
      simp only [if_true, List.nil_append] at d1
      obtain ⟨c1, tl1, e1, n1, _, _, _⟩ := runs_hd l rest
      have ha1 := ahead1 (m + 2) G (d1.trans e1)
      obtain ⟨N, y3', y4', f3, f4, ih⟩ := signs_loop m T G w rest l (i + (sgn within lo).length) (acc ++ [encR (lo, lo)]) (.d (.str [lo])) (.d (.str [lo])) rfl rfl (by simp at hl ⊢; omega) d1
      refine ⟨N + 1, y3', y4', f3, f4, ?_⟩
      have hlen : i + (((lo, lo) :: l).map rn).flatten.length = i + (sgn within lo).length + (l.map rn).flatten.length := by simp [rn]; omega
      rw [hlen, show acc ++ ((lo, lo) :: l).map encR = acc ++ [encR (lo, lo)] ++ l.map encR by simp, ← ih]
      rw [show encR (lo, lo) = .tup [.str [lo], .str [lo]] from rfl]
      generalize ((i + (sgn within lo).length : Nat) : Int) = J at *
      generalize sem codes (m + 3) = S at *
      generalize sem' codes (m + 3) = S' at *
      exact whileN_go (r1 := [rs T i G, .d w, .own false acc, y3, y4]) (by simp -implicitDefEqProofs [ha, k0]) (by simp -implicitDefEqProofs [l_Reader_signs_1, h1, h3, h4, ha1, n1, hf])
    · simp only [if_neg he, List.cons_append] at d1
      have ha1 := ahead1 (m + 2) G d1
      have d2 := drop_one d1
      have h2 := within_ok m G d2
      have d3 := drop_go d2
      obtain ⟨N, y3', y4', f3, f4, ih⟩ := signs_loop m T G w rest l (i + (sgn within lo).length + 1 + (sgn within hi).length) (acc ++ [encR (lo, hi)]) (.d (.str [lo])) (.d (.str [hi])) rfl rfl (by simp at hl ⊢; omega) d3
      refine ⟨N + 1, y3', y4', f3, f4, ?_⟩
      have hlen : i + (((lo, hi) :: l).map rn).flatten.length = i + (sgn within lo).length + 1 + (sgn within hi).length + (l.map rn).flatten.length := by simp [rn, he]; omega
      rw [hlen, show acc ++ ((lo, hi) :: l).map encR = acc ++ [encR (lo, hi)] ++ l.map encR by simp, ← ih]
      rw [show encR (lo, hi) = .tup [.str [lo], .str [hi]] from rfl]
      rw [show ((i + (sgn within lo).length + 1 : Nat) : Int) = ((i + (sgn within lo).length : Nat) : Int) + 1 from rfl] at h2
      generalize ((i + (sgn within lo).length + 1 + (sgn within hi).length : Nat) : Int) = J2 at *
      generalize ((i + (sgn within lo).length : Nat) : Int) = J at *
      generalize sem codes (m + 3) = S at *
      generalize sem' codes (m + 3) = S' at *
      exact whileN_go (r1 := [rs T i G, .d w, .own false acc, y3, y4]) (by simp -implicitDefEqProofs [ha, k0]) (by simp -implicitDefEqProofs [l_Reader_signs_1, h1, h2, h3, h4, ha1, hf])
theorem signs_ok (m : Nat) {T rest : Txt} {i : Nat} (G : Nat) (o : Bool) (l : List (Nat × Nat)) (hl : l.length ≤ 900) (h : T.drop i = (if o then [94] else []) ++ ((l.map rn).flatten ++ 93 :: rest)) :
    sem codes (m + 4) i_Reader_signs [rs T i G] = .ok (.d (enc (.runs o l))) [rs T ((i + ((if o then [94] else []) ++ ((l.map rn).flatten ++ [93]) : Txt).length : Nat) : Int) G] := by
  rw [sem_c rfl]
  rw [show enc (.runs o l) = .tup [.str (if o then [111, 117, 116] else [105, 110]), .tup (l.map encR)] from rfl]
  cases o with
  | true =>
    simp only [if_true] at h ⊢
    have ha := ahead1 (m + 2) G (show T.drop i = 94 :: ((l.map rn).flatten ++ 93 :: rest) from h)
    have d1 := drop_one (show T.drop i = 94 :: ((l.map rn).flatten ++ 93 :: rest) from h)
    obtain ⟨N, y3, y4, f3, f4, hw⟩ := signs_loop m T G (.str [111, 117, 116]) rest l (i + 1) [] .un .un rfl rfl (by simp; omega) d1
    have hw := sWhile_eq N hw (by simp)
    have hlen : ((i + ([94] ++ ((l.map rn).flatten ++ [93]) : Txt).length : Nat) : Int) = ((i + 1 + (l.map rn).flatten.length : Nat) : Int) + 1 := by simp; omega
    rw [hlen]
    have hw : sWhile (sT (sem codes (m + 3))) (l_Reader_signs_1 (sem codes (m + 3)) (sem' codes (m + 3))) [rs T ((i : Int) + 1) G, .d (.str [111, 117, 116]), .own false [], .un, .un] = .nx [rs T ((i + 1 + (l.map rn).flatten.length : Nat) : Int) G, .d (.str [111, 117, 116]), .own false ([] ++ l.map encR), y3, y4] := hw
    generalize ((i + 1 + (l.map rn).flatten.length : Nat) : Int) = J at *
    generalize hE : l.map encR = E at *
    generalize hb : l_Reader_signs_1 (sem codes (m + 3)) (sem' codes (m + 3)) = b at *
    simp only [c_Reader_signs, hb]
    generalize sem codes (m + 3) = S at *
    generalize sem' codes (m + 3) = S' at *
    simp -implicitDefEqProofs [ha, hw]
  | false =>
    simp only [Bool.false_eq_true, if_false, List.nil_append] at h ⊢
    obtain ⟨c1, tl1, e1, _, n2, _, _⟩ := runs_hd l rest
    have ha := ahead1 (m + 2) G (h.trans e1)
    obtain ⟨N, y3, y4, f3, f4, hw⟩ := signs_loop m T G (.str [105, 110]) rest l i [] .un .un rfl rfl (by simp; omega) h
    have hw := sWhile_eq N hw (by simp)
    have hlen : ((i + ((l.map rn).flatten ++ [93] : Txt).length : Nat) : Int) = ((i + (l.map rn).flatten.length : Nat) : Int) + 1 := by simp; omega
    rw [hlen]
    generalize ((i + (l.map rn).flatten.length : Nat) : Int) = J at *
    generalize hE : l.map encR = E at *
    generalize hb : l_Reader_signs_1 (sem codes (m + 3)) (sem' codes (m + 3)) = b at *
    simp only [c_Reader_signs, hb]
    generalize sem codes (m + 3) = S at *
    generalize sem' codes (m + 3) = S' at *
    simp -implicitDefEqProofs [ha, n2, hw]
end Rd
end HT

namespace HT
open Sk
namespace Rd
theorem ahead0 (m : Nat) {T : Txt} {i : Nat} (G : Nat) (h : T.drop i = []) : sem codes (m + 1) i_Reader_ahead [rs T i G] = .ok (.d (.str [])) [rs T i G] := by
  have := ahead_ok m T i G
  rw [h] at this
  exact this
/-- no turns behind it -/
theorem turned_no (m : Nat) (T : Txt) (i G : Nat) (x : D) (h : ∀ tl, T.drop i ≠ 123 :: tl) : sem codes (m + 2) i_Reader_turned [rs T i G, .d x] = .ok (.d x) [rs T i G, .d x] := by
  rw [sem_c rfl]
  cases hd : T.drop i with
  | nil =>
    have ha := ahead0 m G hd
    generalize sem codes (m + 1) = S at *
    generalize sem' codes (m + 1) = S' at *
    simp -implicitDefEqProofs [c_Reader_turned, ha]
  | cons c tl =>
    have ha := ahead1 m G hd
    have hc : c ≠ 123 := by rintro rfl; exact h tl hd
    generalize sem codes (m + 1) = S at *
    generalize sem' codes (m + 1) = S' at *
    simp -implicitDefEqProofs [c_Reader_turned, ha, hc]
def hiOk (lo : Nat) : Option Nat → Prop
  | none => True
  | some u => lo ≤ u ∧ 1 ≤ u ∧ u ≤ 9
theorem dig_in (k : Nat) (hk : k ≤ 9) : 48 + k = 48 ∨ 48 + k = 49 ∨ 48 + k = 50 ∨ 48 + k = 51 ∨ 48 + k = 52 ∨ 48 + k = 53 ∨ 48 + k = 54 ∨ 48 + k = 55 ∨ 48 + k = 56 ∨ 48 + k = 57 := by omega
/-- turns behind it -/
theorem turned_ok (m : Nat) {T rest : Txt} {i : Nat} (G lo : Nat) (hi : Option Nat) (how : How) (x : D) (hlo : lo ≤ 9) (hh : hiOk lo hi) (h : T.drop i = 123 :: (48 + lo) :: 44 :: (hiT hi ++ (how.m ++ 125 :: rest))) :
    sem codes (m + 4) i_Reader_turned [rs T i G, .d x] = .ok (.d (.tup [.str [116, 105, 109, 101, 115], .int lo, encH hi, .str how.t, x])) [rs T ((i + 3 + (hiT hi).length + how.m.length + 1 : Nat) : Int) G, .d (.tup [.str [116, 105, 109, 101, 115], .int lo, encH hi, .str how.t, x])] := by
  rw [sem_c rfl]
  have a0 := ahead1 (m + 2) G h
  have d1 := drop_one h
  have f1 := figure_ok m G hlo d1
  have d2 := drop_one d1
  have w2 := want_ok m G d2
  have d3 := drop_one d2
  have q1 : ((i + 1 : Nat) : Int) = (i : Int) + 1 := rfl
  have q2 : ((i + 1 + 1 : Nat) : Int) = (i : Int) + 1 + 1 := rfl
  have q3 : ((i + 1 + 1 + 1 : Nat) : Int) = (i : Int) + 1 + 1 + 1 := rfl
  have q4 : ((i + 1 + 1 + 1 + 1 : Nat) : Int) = (i : Int) + 1 + 1 + 1 + 1 := rfl
  have q5 : ((i + 1 + 1 + 1 + 1 + 1 : Nat) : Int) = (i : Int) + 1 + 1 + 1 + 1 + 1 := rfl
  have q6 : ((i + 1 + 1 + 1 + 1 + 1 + 1 : Nat) : Int) = (i : Int) + 1 + 1 + 1 + 1 + 1 + 1 := rfl
  have q7 : ((i + 1 + 1 + 1 + 1 + 1 + 1 + 1 : Nat) : Int) = (i : Int) + 1 + 1 + 1 + 1 + 1 + 1 + 1 := rfl
  cases hi with
  | none =>
    simp only [hiT, List.nil_append] at d3 ⊢
    cases how with
    | much =>
      simp only [How.m, List.cons_append, List.nil_append] at d3 ⊢
      have a5 := ahead1 (m + 2) G d3
      have w5 := want_ok m G d3
      rw [show ((i + 3 + ([] : Txt).length + ([] : Txt).length + 1 : Nat) : Int) = (i : Int) + 1 + 1 + 1 + 1 from by simp; omega]
      simp only [q1, q2, q3, q4, q5, q6, q7] at f1 w2 a5 w5
      generalize sem codes (m + 3) = S at *
      generalize sem' codes (m + 3) = S' at *
      simp -implicitDefEqProofs [c_Reader_turned, a0, f1, w2, encH, a5, w5, How.t]
    | little =>
      simp only [How.m, List.cons_append, List.nil_append] at d3 ⊢
      have a5 := ahead1 (m + 2) G d3
      have d6 := drop_one d3
      have w5 := want_ok m G d6
      rw [show ((i + 3 + ([] : Txt).length + ([63] : Txt).length + 1 : Nat) : Int) = (i : Int) + 1 + 1 + 1 + 1 + 1 from by simp; omega]
      simp only [q1, q2, q3, q4, q5, q6, q7] at f1 w2 a5 w5
      generalize sem codes (m + 3) = S at *
      generalize sem' codes (m + 3) = S' at *
      simp -implicitDefEqProofs [c_Reader_turned, a0, f1, w2, encH, a5, w5, How.t]
    | keep =>
      simp only [How.m, List.cons_append, List.nil_append] at d3 ⊢
      have a5 := ahead1 (m + 2) G d3
      have d6 := drop_one d3
      have w5 := want_ok m G d6
      rw [show ((i + 3 + ([] : Txt).length + ([33] : Txt).length + 1 : Nat) : Int) = (i : Int) + 1 + 1 + 1 + 1 + 1 from by simp; omega]
      simp only [q1, q2, q3, q4, q5, q6, q7] at f1 w2 a5 w5
      generalize sem codes (m + 3) = S at *
      generalize sem' codes (m + 3) = S' at *
      simp -implicitDefEqProofs [c_Reader_turned, a0, f1, w2, encH, a5, w5, How.t]
  | some u =>
    obtain ⟨h1, h2, h3⟩ := hh
    simp only [hiT, List.cons_append, List.nil_append] at d3 ⊢
    have a3 := ahead1 (m + 2) G d3
    have f3 := figure_ok m G h3 d3
    have d4 := drop_one d3
    have hin := dig_in u h3
    have n1 : ¬ (u : Int) < (lo : Int) := by omega
    have n2 : ¬ (u : Int) = 0 := by omega
    have n3 : 48 + u ≠ 63 := by omega
    have n4 : 48 + u ≠ 33 := by omega
    cases how with
    | much =>
      simp only [How.m, List.cons_append, List.nil_append] at d4 ⊢
      have a5 := ahead1 (m + 2) G d4
      have w5 := want_ok m G d4
      rw [show ((i + 3 + ([48 + u] : Txt).length + ([] : Txt).length + 1 : Nat) : Int) = (i : Int) + 1 + 1 + 1 + 1 + 1 from by simp; omega]
      simp only [q1, q2, q3, q4, q5, q6, q7] at f1 w2 a3 f3 a5 w5
      rw [show encH (some u) = .int u from rfl]
      generalize (u : Int) = HI at *
      generalize 48 + u = hc at *
      generalize sem codes (m + 3) = S at *
      generalize sem' codes (m + 3) = S' at *
      simp -implicitDefEqProofs [c_Reader_turned, a0, f1, w2, a3, f3, n1, n2, hin, a5, w5, How.t]
    | little =>
      simp only [How.m, List.cons_append, List.nil_append] at d4 ⊢
      have a5 := ahead1 (m + 2) G d4
      have d6 := drop_one d4
      have w5 := want_ok m G d6
      rw [show ((i + 3 + ([48 + u] : Txt).length + ([63] : Txt).length + 1 : Nat) : Int) = (i : Int) + 1 + 1 + 1 + 1 + 1 + 1 from by simp; omega]
      simp only [q1, q2, q3, q4, q5, q6, q7] at f1 w2 a3 f3 a5 w5
      rw [show encH (some u) = .int u from rfl]
      generalize (u : Int) = HI at *
      generalize 48 + u = hc at *
      generalize sem codes (m + 3) = S at *
      generalize sem' codes (m + 3) = S' at *
      simp -implicitDefEqProofs [c_Reader_turned, a0, f1, w2, a3, f3, n1, n2, hin, a5, w5, How.t]
    | keep =>
      simp only [How.m, List.cons_append, List.nil_append] at d4 ⊢
      have a5 := ahead1 (m + 2) G d4
      have d6 := drop_one d4
      have w5 := want_ok m G d6
      rw [show ((i + 3 + ([48 + u] : Txt).length + ([33] : Txt).length + 1 : Nat) : Int) = (i : Int) + 1 + 1 + 1 + 1 + 1 + 1 from by simp; omega]
      simp only [q1, q2, q3, q4, q5, q6, q7] at f1 w2 a3 f3 a5 w5
      rw [show encH (some u) = .int u from rfl]
      generalize (u : Int) = HI at *
      generalize 48 + u = hc at *
      generalize sem codes (m + 3) = S at *
      generalize sem' codes (m + 3) = S' at *
      simp -implicitDefEqProofs [c_Reader_turned, a0, f1, w2, a3, f3, n1, n2, hin, a5, w5, How.t]
end Rd
end HT

namespace HT
open Sk
namespace Ex
open Rd
/-! the Reader at any text: first steps -/
theorem drop_lt {T rest : Txt} {i c : Nat} (h : T.drop i = c :: rest) : i < T.length ∧ c ∈ T := by
  constructor
  · have := congrArg List.length h
    simp at this; omega
  · have : c ∈ T.drop i := by rw [h]; exact List.mem_cons_self
    exact List.mem_of_mem_drop this
theorem drop_ge {T : Txt} {i : Nat} (h : T.drop i = []) : T.length ≤ i := by simpa using h
theorem take_exc (m : Nat) {T : Txt} {i : Nat} (G : Nat) (h : T.drop i = []) : sem codes (m + 2) i_Reader_take [rs T i G] = .exc "Unread" := by
  have h1 := ahead0 m G h
  rw [sem_c rfl]
  generalize sem codes (m + 1) = S at *
  generalize sem' codes (m + 1) = S' at *
  simp -implicitDefEqProofs [c_Reader_take, h1]
theorem want_or (m : Nat) (T : Txt) (i G c : Nat) : sem codes (m + 3) i_Reader_want [rs T i G, .d (.str [c])] = .exc "Unread" ∨ ∃ rest, T.drop i = c :: rest ∧ sem codes (m + 3) i_Reader_want [rs T i G, .d (.str [c])] = .ok (.d .non) [rs T ((i + 1 : Nat) : Int) G, .d (.str [c])] := by
  cases hd : T.drop i with
  | nil =>
    left
    have h1 := take_exc m G hd
    rw [sem_c rfl]
    generalize sem codes (m + 2) = S at *
    generalize sem' codes (m + 2) = S' at *
    simp -implicitDefEqProofs [c_Reader_want, h1]
  | cons c' rest =>
    by_cases hc : c' = c
    · subst hc
      exact .inr ⟨rest, rfl, want_ok m G hd⟩
    · left
      have h1 := Rd.take_ok m G hd
      rw [sem_c rfl]
      generalize sem codes (m + 2) = S at *
      generalize sem' codes (m + 2) = S' at *
      simp -implicitDefEqProofs [c_Reader_want, h1, hc]
theorem figure_or (m : Nat) (T : Txt) (i G : Nat) : sem codes (m + 3) i_Reader_figure [rs T i G] = .exc "Unread" ∨ ∃ (k : Nat) (rest : Txt), k ≤ 9 ∧ T.drop i = (48 + k) :: rest ∧ sem codes (m + 3) i_Reader_figure [rs T i G] = .ok (.d (.int k)) [rs T ((i + 1 : Nat) : Int) G] := by
  cases hd : T.drop i with
  | nil =>
    left
    have h1 := take_exc m G hd
    rw [sem_c rfl]
    generalize sem codes (m + 2) = S at *
    generalize sem' codes (m + 2) = S' at *
    simp -implicitDefEqProofs [c_Reader_figure, h1]
  | cons c rest =>
    by_cases hc : 48 ≤ c ∧ c ≤ 57
    · obtain ⟨k, rfl⟩ : ∃ k, c = 48 + k := ⟨c - 48, by omega⟩
      exact .inr ⟨k, rest, by omega, rfl, figure_ok m G (by omega) hd⟩
    · left
      have h1 := Rd.take_ok m G hd
      have n0 : ¬ c = 48 := by omega
      have n1 : ¬ c = 49 := by omega
      have n2 : ¬ c = 50 := by omega
      have n3 : ¬ c = 51 := by omega
      have n4 : ¬ c = 52 := by omega
      have n5 : ¬ c = 53 := by omega
      have n6 : ¬ c = 54 := by omega
      have n7 : ¬ c = 55 := by omega
      have n8 : ¬ c = 56 := by omega
      have n9 : ¬ c = 57 := by omega
      rw [sem_c rfl]
      generalize sem codes (m + 2) = S at *
      generalize sem' codes (m + 2) = S' at *
      simp -implicitDefEqProofs [c_Reader_figure, h1, n0, n1, n2, n3, n4, n5, n6, n7, n8, n9]
theorem within_or (m : Nat) (T : Txt) (i G : Nat) : sem codes (m + 3) i_Reader_within [rs T i G] = .exc "Unread" ∨ ∃ c rest, T.drop i = sgn within c ++ rest ∧ c ∈ T ∧ sem codes (m + 3) i_Reader_within [rs T i G] = .ok (.d (.str [c])) [rs T ((i + (sgn within c).length : Nat) : Int) G] := by
  cases hd : T.drop i with
  | nil =>
    left
    have h1 := take_exc m G hd
    rw [sem_c rfl]
    generalize sem codes (m + 2) = S at *
    generalize sem' codes (m + 2) = S' at *
    simp -implicitDefEqProofs [c_Reader_within, h1]
  | cons c rest =>
    by_cases hc : c = 92
    · subst hc
      have h1 := Rd.take_ok m G hd
      have d1 := drop_one hd
      cases hd2 : T.drop (i + 1) with
      | nil =>
        left
        have h2 := take_exc m G hd2
        have h2 : sem codes (m + 2) i_Reader_take [rs T ((i : Int) + 1) G] = .exc "Unread" := h2
        rw [sem_c rfl]
        generalize sem codes (m + 2) = S at *
        generalize sem' codes (m + 2) = S' at *
        simp -implicitDefEqProofs [c_Reader_within, h1, h2]
      | cons c rest2 =>
        have e2 : rest = c :: rest2 := d1.symm.trans hd2
        subst e2
        by_cases hw : c ∈ within
        · have e : T.drop i = sgn within c ++ rest2 := by rw [hd]; simp [sgn, hw]
          exact .inr ⟨c, rest2, by simp [sgn, hw], (drop_lt hd2).2, within_ok m G e⟩
        · left
          have h2 := Rd.take_ok m G hd2
          have h2 : sem codes (m + 2) i_Reader_take [rs T ((i : Int) + 1) G] = .ok (.d (.str [c])) [rs T ((i : Int) + 1 + 1) G] := h2
          simp [within] at hw
          rw [sem_c rfl]
          generalize sem codes (m + 2) = S at *
          generalize sem' codes (m + 2) = S' at *
          simp -implicitDefEqProofs [c_Reader_within, h1, h2, hw]
    · by_cases hw : c ∈ within
      · left
        have h1 := Rd.take_ok m G hd
        rw [sem_c rfl]
        generalize sem codes (m + 2) = S at *
        generalize sem' codes (m + 2) = S' at *
        simp [within] at hw
        rcases hw with rfl | rfl | rfl | rfl | rfl
        · exact absurd rfl hc
        all_goals simp -implicitDefEqProofs [c_Reader_within, h1]
      · have e : T.drop i = sgn within c ++ rest := by rw [hd]; simp [sgn, hw]
        exact .inr ⟨c, rest, by simp [sgn, hw], (drop_lt hd).2, within_ok m G e⟩
end Ex
end HT

namespace HT
open Sk
namespace Ex
open Rd
theorem sgn_pos (sp : Txt) (c : Nat) : 1 ≤ (sgn sp c).length := by unfold sgn; split <;> simp
theorem go_le {T w rest : Txt} {i : Nat} (h : T.drop i = w ++ rest) (hi : i ≤ T.length) : i + w.length ≤ T.length := by
  have := congrArg List.length h
  simp at this; omega
/-- what a run is read as -/
theorem rn_le2 (a b : Nat) : (rn (a, b)).length ≤ (sgn within a).length + 1 + (sgn within b).length := by
  unfold rn
  simp only
  split <;> simp <;> omega
theorem rn_same (a : Nat) : (rn (a, a)).length = (sgn within a).length := by simp [rn]
theorem signs_any (m : Nat) (T : Txt) (hT : ∀ c ∈ T, Sg c) (hTl : T.length ≤ 100000) (G : Nat) (w : D) : ∀ (k i : Nat) (acc : List D) (y3 y4 : A), T.length - i ≤ k → i ≤ T.length → freeA y3 = true → freeA y4 = true → acc.length ≤ i →
    ∃ N, (∃ r, whileN (sT (sem codes (m + 3))) (l_Reader_signs_1 (sem codes (m + 3)) (sem' codes (m + 3))) N [rs T i G, .d w, .own false acc, y3, y4] = .ex "Unread" r) ∨
      ∃ (l : List (Nat × Nat)) (j : Nat) (rest : Txt) (y3' y4' : A), whileN (sT (sem codes (m + 3))) (l_Reader_signs_1 (sem codes (m + 3)) (sem' codes (m + 3))) N [rs T i G, .d w, .own false acc, y3, y4] = .nx [rs T j G, .d w, .own false (acc ++ l.map encR), y3', y4'] ∧ T.drop j = 93 :: rest ∧ i + (l.map rn).flatten.length ≤ j ∧ acc.length + l.length ≤ j ∧ ∀ r ∈ l, Sg r.1 ∧ Sg r.2
  | k, i, acc, y3, y4, hk, hi, h3, h4, hacc => by
    by_cases he : ∃ rest, T.drop i = 93 :: rest
    · obtain ⟨rest, hd⟩ := he
      have ha := ahead1 (m + 2) G hd
      refine ⟨1, .inr ⟨[], i, rest, y3, y4, ?_, hd, by simp, by simpa using hacc, by simp⟩⟩
      rw [whileN_end (r1 := [rs T i G, .d w, .own false acc, y3, y4]) (by
        generalize sem codes (m + 3) = S at *
        simp -implicitDefEqProofs [ha])]
      simp
    · have htst : tst (sT (sem codes (m + 3))) [rs T i G, .d w, .own false acc, y3, y4] = .ok true [rs T i G, .d w, .own false acc, y3, y4] := by
        cases hd : T.drop i with
        | nil =>
          have ha := ahead0 (m + 2) G hd
          generalize sem codes (m + 3) = S at *
          simp -implicitDefEqProofs [ha]
        | cons c tl =>
          have ha := ahead1 (m + 2) G hd
          have hc : ¬ c = 93 := by rintro rfl; exact he ⟨tl, hd⟩
          generalize sem codes (m + 3) = S at *
          simp -implicitDefEqProofs [ha, hc]
      rcases within_or m T i G with h1 | ⟨c1, rest1, hd1, hc1, h1⟩
      · refine ⟨1, .inl ⟨_, whileN_ex (r2 := [.un, .d w, .own false acc, y3, y4]) htst ?_⟩⟩
        generalize sem codes (m + 3) = S at *
        generalize sem' codes (m + 3) = S' at *
        simp -implicitDefEqProofs [l_Reader_signs_1, h1]
      · have d1 := drop_go hd1
        have l1 := go_le hd1 hi
        have p1 := sgn_pos within c1
        have g1 := hT c1 hc1
        have hf : Fit1 acc.length := fit1_of (by omega)
        by_cases hm : ∃ rest, T.drop (i + (sgn within c1).length) = 45 :: rest
        · obtain ⟨rest2, hd2⟩ := hm
          have ha1 := ahead1 (m + 2) G hd2
          have d2 := drop_one hd2
          have l2 := (drop_lt hd2).1
          rcases within_or m T (i + (sgn within c1).length + 1) G with h2 | ⟨c2, rest3, hd3, hc2, h2⟩
          · rw [show ((i + (sgn within c1).length + 1 : Nat) : Int) = ((i + (sgn within c1).length : Nat) : Int) + 1 from rfl] at h2
            refine ⟨1, .inl ⟨_, whileN_ex (r2 := [.un, .d w, .own false acc, .d (.str [c1]), .d (.str [c1])]) htst ?_⟩⟩
            generalize ((i + (sgn within c1).length : Nat) : Int) = J at *
            generalize sem codes (m + 3) = S at *
            generalize sem' codes (m + 3) = S' at *
            simp -implicitDefEqProofs [l_Reader_signs_1, h1, h3, h4, ha1, h2]
          · have l3 := go_le hd3 (by omega)
            have p2 := sgn_pos within c2
            have g2 := hT c2 hc2
            have hrn := rn_le2 c1 c2
            obtain ⟨N, ih⟩ := signs_any m T hT hTl G w (k - 1) (i + (sgn within c1).length + 1 + (sgn within c2).length) (acc ++ [encR (c1, c2)]) (.d (.str [c1])) (.d (.str [c2])) (by omega) l3 rfl rfl (by simp; omega)
            have step : whileN (sT (sem codes (m + 3))) (l_Reader_signs_1 (sem codes (m + 3)) (sem' codes (m + 3))) (N + 1) [rs T i G, .d w, .own false acc, y3, y4] = whileN (sT (sem codes (m + 3))) (l_Reader_signs_1 (sem codes (m + 3)) (sem' codes (m + 3))) N [rs T ((i + (sgn within c1).length + 1 + (sgn within c2).length : Nat) : Int) G, .d w, .own false (acc ++ [encR (c1, c2)]), .d (.str [c1]), .d (.str [c2])] := by
              refine whileN_go htst ?_
              rw [show encR (c1, c2) = .tup [.str [c1], .str [c2]] from rfl]
              rw [show ((i + (sgn within c1).length + 1 : Nat) : Int) = ((i + (sgn within c1).length : Nat) : Int) + 1 from rfl] at h2
              generalize ((i + (sgn within c1).length + 1 + (sgn within c2).length : Nat) : Int) = J2 at *
              generalize ((i + (sgn within c1).length : Nat) : Int) = J at *
              clear ih htst
              generalize sem codes (m + 3) = S at *
              generalize sem' codes (m + 3) = S' at *
              simp -implicitDefEqProofs [l_Reader_signs_1, h1, h2, h3, h4, ha1, hf]
            refine ⟨N + 1, ?_⟩
            rw [step]
            rcases ih with ⟨r, e⟩ | ⟨l, j, rest, y3', y4', e, q1, q2, q3, q4⟩
            · exact .inl ⟨r, e⟩
            · refine .inr ⟨(c1, c2) :: l, j, rest, y3', y4', by rw [e]; simp, q1, ?_, ?_, ?_⟩
              · simp only [List.map_cons, List.flatten_cons, List.length_append]; omega
              · simp at q3 ⊢; omega
              · intro r hr
                rcases List.mem_cons.mp hr with rfl | hr
                · exact ⟨g1, g2⟩
                · exact q4 r hr
        · have ha1 : ∃ z, (¬ z = ([45] : Txt)) ∧ sem codes (m + 3) i_Reader_ahead [rs T ((i + (sgn within c1).length : Nat) : Int) G] = .ok (.d (.str z)) [rs T ((i + (sgn within c1).length : Nat) : Int) G] := by
            cases hd2 : T.drop (i + (sgn within c1).length) with
            | nil => exact ⟨[], by simp, ahead0 (m + 2) G hd2⟩
            | cons c tl => exact ⟨[c], by simp; rintro rfl; exact hm ⟨tl, hd2⟩, ahead1 (m + 2) G hd2⟩
          obtain ⟨z, hz, ha1⟩ := ha1
          have hrn := rn_same c1
          obtain ⟨N, ih⟩ := signs_any m T hT hTl G w (k - 1) (i + (sgn within c1).length) (acc ++ [encR (c1, c1)]) (.d (.str [c1])) (.d (.str [c1])) (by omega) l1 rfl rfl (by simp; omega)
          have step : whileN (sT (sem codes (m + 3))) (l_Reader_signs_1 (sem codes (m + 3)) (sem' codes (m + 3))) (N + 1) [rs T i G, .d w, .own false acc, y3, y4] = whileN (sT (sem codes (m + 3))) (l_Reader_signs_1 (sem codes (m + 3)) (sem' codes (m + 3))) N [rs T ((i + (sgn within c1).length : Nat) : Int) G, .d w, .own false (acc ++ [encR (c1, c1)]), .d (.str [c1]), .d (.str [c1])] := by
            refine whileN_go htst ?_
            rw [show encR (c1, c1) = .tup [.str [c1], .str [c1]] from rfl]
            generalize ((i + (sgn within c1).length : Nat) : Int) = J at *
            clear ih htst
            generalize sem codes (m + 3) = S at *
            generalize sem' codes (m + 3) = S' at *
            simp -implicitDefEqProofs [l_Reader_signs_1, h1, h3, h4, ha1, hz, hf]
          refine ⟨N + 1, ?_⟩
          rw [step]
          rcases ih with ⟨r, e⟩ | ⟨l, j, rest, y3', y4', e, q1, q2, q3, q4⟩
          · exact .inl ⟨r, e⟩
          · refine .inr ⟨(c1, c1) :: l, j, rest, y3', y4', by rw [e]; simp, q1, ?_, ?_, ?_⟩
            · simp only [List.map_cons, List.flatten_cons, List.length_append]; omega
            · simp at q3 ⊢; omega
            · intro r hr
              rcases List.mem_cons.mp hr with rfl | hr
              · exact ⟨g1, g1⟩
              · exact q4 r hr
termination_by k => k
decreasing_by all_goals omega
theorem signs_or (m : Nat) (T : Txt) (hT : ∀ c ∈ T, Sg c) (hTl : T.length ≤ 100000) (i G : Nat) (hi : i ≤ T.length) : sem codes (m + 4) i_Reader_signs [rs T i G] = .exc "Unread" ∨ ∃ (o : Bool) (l : List (Nat × Nat)) (j : Nat), sem codes (m + 4) i_Reader_signs [rs T i G] = .ok (.d (enc (.runs o l))) [rs T j G] ∧ i + (wr (.runs o l)).length ≤ j + 1 ∧ j ≤ T.length ∧ i < j ∧ l.length ≤ 100000 ∧ ∀ r ∈ l, Sg r.1 ∧ Sg r.2 := by
  by_cases hm : ∃ rest, T.drop i = 94 :: rest
  · obtain ⟨rest, hd⟩ := hm
    have ha := ahead1 (m + 2) G hd
    have li := (drop_lt hd).1
    obtain ⟨N, hw⟩ := signs_any m T hT hTl G (.str [111, 117, 116]) T.length (i + 1) [] .un .un (by omega) (by omega) rfl rfl (by simp)
    rw [show ((i + 1 : Nat) : Int) = (i : Int) + 1 from rfl] at hw
    rcases hw with ⟨r, e⟩ | ⟨l, j, rest', y3, y4, e, q1, q2, q3, q4⟩
    · left
      have hw := sWhile_eq N e (by simp)
      rw [sem_c rfl]
      generalize hb : l_Reader_signs_1 (sem codes (m + 3)) (sem' codes (m + 3)) = b at *
      simp only [c_Reader_signs, hb]
      generalize sem codes (m + 3) = S at *
      generalize sem' codes (m + 3) = S' at *
      simp -implicitDefEqProofs [ha, hw]
    · right
      have hw := sWhile_eq N e (by simp)
      have lj := (drop_lt q1).1
      have hlen : (wr (.runs true l)).length = 2 + (l.map rn).flatten.length + 1 := by simp [wr]; omega
      have hf : Fits (l.map encR).length := fits_of (by simp at q3 ⊢; omega)
      refine ⟨true, l, j + 1, ?_, by omega, by omega, by omega, by simp at q3; omega, q4⟩
      rw [sem_c rfl]
      rw [show enc (.runs true l) = .tup [.str [111, 117, 116], .tup (l.map encR)] from rfl]
      rw [show ((j + 1 : Nat) : Int) = (j : Int) + 1 from rfl]
      generalize l.map encR = E at *
      generalize hb : l_Reader_signs_1 (sem codes (m + 3)) (sem' codes (m + 3)) = b at *
      simp only [c_Reader_signs, hb]
      generalize sem codes (m + 3) = S at *
      generalize sem' codes (m + 3) = S' at *
      simp -implicitDefEqProofs [ha, hw, hf]
  · have ha1 : ∃ z, (¬ z = ([94] : Txt)) ∧ sem codes (m + 3) i_Reader_ahead [rs T i G] = .ok (.d (.str z)) [rs T i G] := by
      cases hd2 : T.drop i with
      | nil => exact ⟨[], by simp, ahead0 (m + 2) G hd2⟩
      | cons c tl => exact ⟨[c], by simp; rintro rfl; exact hm ⟨tl, hd2⟩, ahead1 (m + 2) G hd2⟩
    obtain ⟨z, hz, ha⟩ := ha1
    obtain ⟨N, hw⟩ := signs_any m T hT hTl G (.str [105, 110]) T.length i [] .un .un (by omega) (by omega) rfl rfl (by simp)
    rcases hw with ⟨r, e⟩ | ⟨l, j, rest', y3, y4, e, q1, q2, q3, q4⟩
    · left
      have hw := sWhile_eq N e (by simp)
      rw [sem_c rfl]
      generalize hb : l_Reader_signs_1 (sem codes (m + 3)) (sem' codes (m + 3)) = b at *
      simp only [c_Reader_signs, hb]
      generalize sem codes (m + 3) = S at *
      generalize sem' codes (m + 3) = S' at *
      simp -implicitDefEqProofs [ha, hz, hw]
    · right
      have hw := sWhile_eq N e (by simp)
      have lj := (drop_lt q1).1
      have hlen : (wr (.runs false l)).length = 1 + (l.map rn).flatten.length + 1 := by simp [wr]; omega
      have hf : Fits (l.map encR).length := fits_of (by simp at q3 ⊢; omega)
      refine ⟨false, l, j + 1, ?_, by omega, by omega, by omega, by simp at q3; omega, q4⟩
      rw [sem_c rfl]
      rw [show enc (.runs false l) = .tup [.str [105, 110], .tup (l.map encR)] from rfl]
      rw [show ((j + 1 : Nat) : Int) = (j : Int) + 1 from rfl]
      generalize l.map encR = E at *
      generalize hb : l_Reader_signs_1 (sem codes (m + 3)) (sem' codes (m + 3)) = b at *
      simp only [c_Reader_signs, hb]
      generalize sem codes (m + 3) = S at *
      generalize sem' codes (m + 3) = S' at *
      simp -implicitDefEqProofs [ha, hz, hw, hf]
end Ex
end HT

namespace HT
open Sk
namespace Ex
open Rd
theorem not_dig {c : Nat} (h : ¬ (48 ≤ c ∧ c ≤ 57)) : ¬ c = 48 ∧ ¬ c = 49 ∧ ¬ c = 50 ∧ ¬ c = 51 ∧ ¬ c = 52 ∧ ¬ c = 53 ∧ ¬ c = 54 ∧ ¬ c = 55 ∧ ¬ c = 56 ∧ ¬ c = 57 := by omega
theorem turned_or (m : Nat) (T : Txt) (i G : Nat) (x : D) (hi0 : i ≤ T.length) : sem codes (m + 4) i_Reader_turned [rs T i G, .d x] = .exc "Unread" ∨ ∃ (y z : D) (j : Nat), sem codes (m + 4) i_Reader_turned [rs T i G, .d x] = .ok (.d y) [rs T j G, .d z] ∧ j ≤ T.length ∧
    ((y = x ∧ j = i) ∨ ∃ (lo : Nat) (hi : Option Nat) (how : How), y = .tup [.str [116, 105, 109, 101, 115], .int lo, encH hi, .str how.t, x] ∧ j = i + 4 + (hiT hi).length + how.m.length ∧ lo ≤ 9 ∧ hiOk lo hi) := by
  by_cases hm : ∃ r0, T.drop i = 123 :: r0
  · obtain ⟨r0, hd⟩ := hm
    have a0 := ahead1 (m + 2) G hd
    have q1 : ((i + 1 : Nat) : Int) = (i : Int) + 1 := rfl
    have q2 : ((i + 1 + 1 : Nat) : Int) = (i : Int) + 1 + 1 := rfl
    have q3 : ((i + 1 + 1 + 1 : Nat) : Int) = (i : Int) + 1 + 1 + 1 := rfl
    have q4 : ((i + 1 + 1 + 1 + 1 : Nat) : Int) = (i : Int) + 1 + 1 + 1 + 1 := rfl
    have q5 : ((i + 1 + 1 + 1 + 1 + 1 : Nat) : Int) = (i : Int) + 1 + 1 + 1 + 1 + 1 := rfl
    have q6 : ((i + 1 + 1 + 1 + 1 + 1 + 1 : Nat) : Int) = (i : Int) + 1 + 1 + 1 + 1 + 1 + 1 := rfl
    rcases figure_or m T (i + 1) G with f1 | ⟨lo, r1, hlo, hd1, f1⟩
    · left
      rw [sem_c rfl]
      simp only [q1] at f1
      generalize sem codes (m + 3) = S at *
      generalize sem' codes (m + 3) = S' at *
      simp -implicitDefEqProofs [c_Reader_turned, a0, f1]
    · have e0 := (drop_one hd).symm.trans hd1
      subst e0
      rcases want_or m T (i + 1 + 1) G 44 with w2 | ⟨r2, hd2, w2⟩
      · left
        rw [sem_c rfl]
        simp only [q1, q2] at f1 w2
        generalize sem codes (m + 3) = S at *
        generalize sem' codes (m + 3) = S' at *
        simp -implicitDefEqProofs [c_Reader_turned, a0, f1, w2]
      · have e1 := (drop_one hd1).symm.trans hd2
        subst e1
        have d3 := drop_one hd2
        by_cases hdig : ∃ (k : Nat) (r3 : Txt), k ≤ 9 ∧ T.drop (i + 1 + 1 + 1) = (48 + k) :: r3
        · obtain ⟨k, r3, hk9, hd3⟩ := hdig
          have a3 := ahead1 (m + 2) G hd3
          have f3 := figure_ok m G hk9 hd3
          have hin := dig_in k hk9
          have e2 := d3.symm.trans hd3
          subst e2
          cases hd4 : T.drop (i + 1 + 1 + 1 + 1) with
          | nil =>
            have a5 := ahead0 (m + 2) G hd4
            rcases want_or m T (i + 1 + 1 + 1 + 1) G 125 with w5 | ⟨r5, hd5, w5⟩
            · left
              simp only [q1, q2, q3, q4, q5, q6] at f1 w2 a3 f3 a5 w5
              rw [sem_c rfl]
              generalize 48 + k = dk at *
              generalize sem codes (m + 3) = S at *
              generalize sem' codes (m + 3) = S' at *
              simp -implicitDefEqProofs [c_Reader_turned, a0, f1, w2, a3, f3, hin, a5, w5]
            · rw [hd4] at hd5; cases hd5
          | cons c r4 =>
            have a5 := ahead1 (m + 2) G hd4
            have e3 := (drop_one hd3).symm.trans hd4
            subst e3
            by_cases hc1 : c = 63
            · subst hc1
              rcases want_or m T (i + 1 + 1 + 1 + 1 + 1) G 125 with w5 | ⟨r5, hd5, w5⟩
              · left
                simp only [q1, q2, q3, q4, q5, q6] at f1 w2 a3 f3 a5 w5
                rw [sem_c rfl]
                generalize 48 + k = dk at *
                generalize sem codes (m + 3) = S at *
                generalize sem' codes (m + 3) = S' at *
                simp -implicitDefEqProofs [c_Reader_turned, a0, f1, w2, a3, f3, hin, a5, w5]
              · by_cases hk : hiOk lo (some k)
                · have e4 := (drop_one hd4).symm.trans hd5
                  have l5 := (drop_lt hd5).1
                  refine .inr ⟨.tup [.str [116, 105, 109, 101, 115], .int lo, encH (some k), .str How.little.t, x], .tup [.str [116, 105, 109, 101, 115], .int lo, encH (some k), .str How.little.t, x], i + 3 + (hiT (some k)).length + How.little.m.length + 1, turned_ok m G lo (some k) .little x hlo hk (rest := r5) ?_, ?_, .inr ⟨lo, (some k), .little, rfl, by omega, hlo, hk⟩⟩
                  · rw [hd]; simp only [hiT, How.m, List.cons_append, List.nil_append]; rw [← e4]
                  · simp only [hiT, How.m, List.length_cons, List.length_nil]; omega
                · left
                  have hk2 : (k : Int) < (lo : Int) ∨ (k : Int) = 0 := by unfold hiOk at hk; omega
                  simp only [q1, q2, q3, q4, q5, q6] at f1 w2 a3 f3 a5 w5
                  rw [sem_c rfl]
                  generalize 48 + k = dk at *
                  generalize sem codes (m + 3) = S at *
                  generalize sem' codes (m + 3) = S' at *
                  generalize (k : Int) = HI at *
                  generalize (lo : Int) = LO at *
                  by_cases hlt : HI < LO
                  · simp -implicitDefEqProofs [c_Reader_turned, a0, f1, w2, a3, f3, hin, a5, w5, hlt]
                  · have h0 : HI = 0 := hk2.resolve_left hlt
                    simp -implicitDefEqProofs [c_Reader_turned, a0, f1, w2, a3, f3, hin, a5, w5, hlt, h0]
            by_cases hc2 : c = 33
            · subst hc2
              rcases want_or m T (i + 1 + 1 + 1 + 1 + 1) G 125 with w5 | ⟨r5, hd5, w5⟩
              · left
                simp only [q1, q2, q3, q4, q5, q6] at f1 w2 a3 f3 a5 w5
                rw [sem_c rfl]
                generalize 48 + k = dk at *
                generalize sem codes (m + 3) = S at *
                generalize sem' codes (m + 3) = S' at *
                simp -implicitDefEqProofs [c_Reader_turned, a0, f1, w2, a3, f3, hin, a5, w5]
              · by_cases hk : hiOk lo (some k)
                · have e4 := (drop_one hd4).symm.trans hd5
                  have l5 := (drop_lt hd5).1
                  refine .inr ⟨.tup [.str [116, 105, 109, 101, 115], .int lo, encH (some k), .str How.keep.t, x], .tup [.str [116, 105, 109, 101, 115], .int lo, encH (some k), .str How.keep.t, x], i + 3 + (hiT (some k)).length + How.keep.m.length + 1, turned_ok m G lo (some k) .keep x hlo hk (rest := r5) ?_, ?_, .inr ⟨lo, (some k), .keep, rfl, by omega, hlo, hk⟩⟩
                  · rw [hd]; simp only [hiT, How.m, List.cons_append, List.nil_append]; rw [← e4]
                  · simp only [hiT, How.m, List.length_cons, List.length_nil]; omega
                · left
                  have hk2 : (k : Int) < (lo : Int) ∨ (k : Int) = 0 := by unfold hiOk at hk; omega
                  simp only [q1, q2, q3, q4, q5, q6] at f1 w2 a3 f3 a5 w5
                  rw [sem_c rfl]
                  generalize 48 + k = dk at *
                  generalize sem codes (m + 3) = S at *
                  generalize sem' codes (m + 3) = S' at *
                  generalize (k : Int) = HI at *
                  generalize (lo : Int) = LO at *
                  by_cases hlt : HI < LO
                  · simp -implicitDefEqProofs [c_Reader_turned, a0, f1, w2, a3, f3, hin, a5, w5, hlt]
                  · have h0 : HI = 0 := hk2.resolve_left hlt
                    simp -implicitDefEqProofs [c_Reader_turned, a0, f1, w2, a3, f3, hin, a5, w5, hlt, h0]
            rcases want_or m T (i + 1 + 1 + 1 + 1) G 125 with w5 | ⟨r5, hd5, w5⟩
            · left
              simp only [q1, q2, q3, q4, q5, q6] at f1 w2 a3 f3 a5 w5
              rw [sem_c rfl]
              generalize 48 + k = dk at *
              generalize sem codes (m + 3) = S at *
              generalize sem' codes (m + 3) = S' at *
              simp -implicitDefEqProofs [c_Reader_turned, a0, f1, w2, a3, f3, hin, a5, w5, hc1, hc2]
            · by_cases hk : hiOk lo (some k)
              · have e4 := hd4.symm.trans hd5
                have l5 := (drop_lt hd5).1
                refine .inr ⟨.tup [.str [116, 105, 109, 101, 115], .int lo, encH (some k), .str How.much.t, x], .tup [.str [116, 105, 109, 101, 115], .int lo, encH (some k), .str How.much.t, x], i + 3 + (hiT (some k)).length + How.much.m.length + 1, turned_ok m G lo (some k) .much x hlo hk (rest := r5) ?_, ?_, .inr ⟨lo, (some k), .much, rfl, by omega, hlo, hk⟩⟩
                · rw [hd]; simp only [hiT, How.m, List.cons_append, List.nil_append]; rw [← e4]
                · simp only [hiT, How.m, List.length_cons, List.length_nil]; omega
              · left
                have hk2 : (k : Int) < (lo : Int) ∨ (k : Int) = 0 := by unfold hiOk at hk; omega
                simp only [q1, q2, q3, q4, q5, q6] at f1 w2 a3 f3 a5 w5
                rw [sem_c rfl]
                generalize 48 + k = dk at *
                generalize sem codes (m + 3) = S at *
                generalize sem' codes (m + 3) = S' at *
                generalize (k : Int) = HI at *
                generalize (lo : Int) = LO at *
                by_cases hlt : HI < LO
                · simp -implicitDefEqProofs [c_Reader_turned, a0, f1, w2, a3, f3, hin, a5, w5, hlt, hc1, hc2]
                · have h0 : HI = 0 := hk2.resolve_left hlt
                  simp -implicitDefEqProofs [c_Reader_turned, a0, f1, w2, a3, f3, hin, a5, w5, hlt, h0, hc1, hc2]
        · cases hd4 : T.drop (i + 1 + 1 + 1) with
          | nil =>
            have a5 := ahead0 (m + 2) G hd4
            have a3 := a5
            rcases want_or m T (i + 1 + 1 + 1) G 125 with w5 | ⟨r5, hd5, w5⟩
            · left
              simp only [q1, q2, q3, q4, q5, q6] at f1 w2 a3 a5 w5
              rw [sem_c rfl]
              generalize sem codes (m + 3) = S at *
              generalize sem' codes (m + 3) = S' at *
              simp -implicitDefEqProofs [c_Reader_turned, a0, f1, w2, a3, a5, w5]
            · rw [hd4] at hd5; cases hd5
          | cons c r4 =>
            have a5 := ahead1 (m + 2) G hd4
            have a3 := a5
            have e3 := d3.symm.trans hd4
            subst e3
            by_cases hc1 : c = 63
            · subst hc1
              rcases want_or m T (i + 1 + 1 + 1 + 1) G 125 with w5 | ⟨r5, hd5, w5⟩
              · left
                simp only [q1, q2, q3, q4, q5, q6] at f1 w2 a3 a5 w5
                rw [sem_c rfl]
                generalize sem codes (m + 3) = S at *
                generalize sem' codes (m + 3) = S' at *
                simp -implicitDefEqProofs [c_Reader_turned, a0, f1, w2, a3, a5, w5]
              · have e4 := (drop_one hd4).symm.trans hd5
                have l5 := (drop_lt hd5).1
                refine .inr ⟨.tup [.str [116, 105, 109, 101, 115], .int lo, encH none, .str How.little.t, x], .tup [.str [116, 105, 109, 101, 115], .int lo, encH none, .str How.little.t, x], i + 3 + (hiT none).length + How.little.m.length + 1, turned_ok m G lo none .little x hlo trivial (rest := r5) ?_, ?_, .inr ⟨lo, none, .little, rfl, by omega, hlo, trivial⟩⟩
                · rw [hd]; simp only [hiT, How.m, List.cons_append, List.nil_append]; rw [← e4]
                · simp only [hiT, How.m, List.length_cons, List.length_nil]; omega
            by_cases hc2 : c = 33
            · subst hc2
              rcases want_or m T (i + 1 + 1 + 1 + 1) G 125 with w5 | ⟨r5, hd5, w5⟩
              · left
                simp only [q1, q2, q3, q4, q5, q6] at f1 w2 a3 a5 w5
                rw [sem_c rfl]
                generalize sem codes (m + 3) = S at *
                generalize sem' codes (m + 3) = S' at *
                simp -implicitDefEqProofs [c_Reader_turned, a0, f1, w2, a3, a5, w5]
              · have e4 := (drop_one hd4).symm.trans hd5
                have l5 := (drop_lt hd5).1
                refine .inr ⟨.tup [.str [116, 105, 109, 101, 115], .int lo, encH none, .str How.keep.t, x], .tup [.str [116, 105, 109, 101, 115], .int lo, encH none, .str How.keep.t, x], i + 3 + (hiT none).length + How.keep.m.length + 1, turned_ok m G lo none .keep x hlo trivial (rest := r5) ?_, ?_, .inr ⟨lo, none, .keep, rfl, by omega, hlo, trivial⟩⟩
                · rw [hd]; simp only [hiT, How.m, List.cons_append, List.nil_append]; rw [← e4]
                · simp only [hiT, How.m, List.length_cons, List.length_nil]; omega
            have nd : ¬ (48 ≤ c ∧ c ≤ 57) := fun z => hdig ⟨c - 48, r4, by omega, by rw [hd4]; congr 1; omega⟩
            obtain ⟨n0, n1, n2, n3, n4, n5, n6, n7, n8, n9⟩ := not_dig nd
            rcases want_or m T (i + 1 + 1 + 1) G 125 with w5 | ⟨r5, hd5, w5⟩
            · left
              simp only [q1, q2, q3, q4, q5, q6] at f1 w2 a3 a5 w5
              rw [sem_c rfl]
              generalize sem codes (m + 3) = S at *
              generalize sem' codes (m + 3) = S' at *
              simp -implicitDefEqProofs [c_Reader_turned, a0, f1, w2, a3, a5, w5, hc1, hc2, n0, n1, n2, n3, n4, n5, n6, n7, n8, n9]
            · have e4 := hd4.symm.trans hd5
              have l5 := (drop_lt hd5).1
              refine .inr ⟨.tup [.str [116, 105, 109, 101, 115], .int lo, encH none, .str How.much.t, x], .tup [.str [116, 105, 109, 101, 115], .int lo, encH none, .str How.much.t, x], i + 3 + (hiT none).length + How.much.m.length + 1, turned_ok m G lo none .much x hlo trivial (rest := r5) ?_, ?_, .inr ⟨lo, none, .much, rfl, by omega, hlo, trivial⟩⟩
              · rw [hd]; simp only [hiT, How.m, List.cons_append, List.nil_append]; rw [← e4]
              · simp only [hiT, How.m, List.length_cons, List.length_nil]; omega
  · right
    exact ⟨x, x, i, turned_no (m + 2) T i G x (fun tl h => hm ⟨tl, h⟩), hi0, .inl ⟨rfl, rfl⟩⟩
end Ex
end HT

namespace HT
open Sk
namespace Rd
theorem one_any (m : Nat) {T rest : Txt} {i : Nat} (G : Nat) (n : D) (h : T.drop i = 46 :: rest) : sem codes (m + 3) i_Reader_one [rs T i G, .d n] = .ok (.d (enc .any)) [rs T ((i + 1 : Nat) : Int) G, .d n] := by
  have h1 := take_ok m G h
  rw [sem_c rfl]
  rw [show enc .any = .tup [.str [97, 110, 121]] from rfl, show ((i + 1 : Nat) : Int) = (i : Int) + 1 from rfl]
  generalize sem codes (m + 2) = S at *
  generalize sem' codes (m + 2) = S' at *
  simp -implicitDefEqProofs [c_Reader_one, h1, List.lookup, inD, flatD, sameD]
theorem one_edge (m : Nat) {T rest : Txt} {i : Nat} (G : Nat) (n : D) (e : Bool) (h : T.drop i = (if e then 36 else 94) :: rest) : sem codes (m + 3) i_Reader_one [rs T i G, .d n] = .ok (.d (enc (.edge e))) [rs T ((i + 1 : Nat) : Int) G, .d n] := by
  have h1 := take_ok m G h
  rw [sem_c rfl]
  rw [show enc (.edge e) = .tup [.str (if e then [101, 110, 100] else [98, 101, 103, 105, 110])] from rfl, show ((i + 1 : Nat) : Int) = (i : Int) + 1 from rfl]
  generalize sem codes (m + 2) = S at *
  generalize sem' codes (m + 2) = S' at *
  cases e <;> simp -implicitDefEqProofs at h1 ⊢ <;> simp -implicitDefEqProofs [c_Reader_one, h1, List.lookup, inD, flatD, sameD]
theorem one_again (m : Nat) {T rest : Txt} {i : Nat} (G : Nat) (n : D) (k : Nat) (hk : k ≤ 9) (h : T.drop i = 38 :: (48 + k) :: rest) : sem codes (m + 4) i_Reader_one [rs T i G, .d n] = .ok (.d (enc (.again k))) [rs T ((i + 2 : Nat) : Int) G, .d n] := by
  have h1 := take_ok (m + 1) G h
  have h2 := figure_ok m G hk (drop_one h)
  rw [sem_c rfl]
  rw [show enc (.again k) = .tup [.str [97, 103, 97, 105, 110], .int k] from rfl, show ((i + 2 : Nat) : Int) = (i : Int) + 1 + 1 from by omega]
  rw [show ((i + 1 : Nat) : Int) = (i : Int) + 1 from rfl] at h2
  generalize (k : Int) = K at *
  generalize sem codes (m + 3) = S at *
  generalize sem' codes (m + 3) = S' at *
  simp -implicitDefEqProofs [c_Reader_one, h1, h2]
theorem one_runs (m : Nat) {T rest : Txt} {i : Nat} (G : Nat) (n : D) (o : Bool) (l : List (Nat × Nat)) (hl : l.length ≤ 900) (h : T.drop i = 91 :: ((if o then [94] else []) ++ ((l.map rn).flatten ++ 93 :: rest))) :
    sem codes (m + 5) i_Reader_one [rs T i G, .d n] = .ok (.d (enc (.runs o l))) [rs T ((i + 1 + ((if o then [94] else []) ++ ((l.map rn).flatten ++ [93]) : Txt).length : Nat) : Int) G, .d n] := by
  have h1 := take_ok (m + 2) G h
  have h2 := signs_ok m G o l hl (drop_one h)
  rw [sem_c rfl]
  rw [show ((i + 1 : Nat) : Int) = (i : Int) + 1 from rfl] at h2
  generalize ((i + 1 + ((if o then [94] else []) ++ ((l.map rn).flatten ++ [93]) : Txt).length : Nat) : Int) = J at *
  generalize enc (.runs o l) = E at *
  generalize sem codes (m + 4) = S at *
  generalize sem' codes (m + 4) = S' at *
  simp -implicitDefEqProofs [c_Reader_one, h1, h2]
theorem one_sign (m : Nat) {T rest : Txt} {i : Nat} (G : Nat) (n : D) (c : Nat) (h : T.drop i = sgn special c ++ rest) : sem codes (m + 3) i_Reader_one [rs T i G, .d n] = .ok (.d (enc (.sign c))) [rs T ((i + (sgn special c).length : Nat) : Int) G, .d n] := by
  rw [sem_c rfl]
  rw [show enc (.sign c) = .tup [.str [115, 105, 103, 110], .str [c]] from rfl]
  unfold sgn at *
  by_cases hc : c ∈ special
  · rw [if_pos hc] at h ⊢
    have h1 := take_ok m G (show T.drop i = 92 :: (c :: rest) from h)
    have h2 := take_ok m G (drop_one (show T.drop i = 92 :: (c :: rest) from h))
    rw [show ((i + ([92, c] : Txt).length : Nat) : Int) = (i : Int) + 1 + 1 from rfl]
    rw [show ((i + 1 : Nat) : Int) = (i : Int) + 1 from rfl] at h2
    generalize sem codes (m + 2) = S at *
    generalize sem' codes (m + 2) = S' at *
    simp [special] at hc
    rcases hc with rfl | rfl | rfl | rfl | rfl | rfl | rfl | rfl | rfl | rfl | rfl | rfl | rfl | rfl | rfl <;> simp -implicitDefEqProofs [c_Reader_one, h1, h2, List.lookup, inD, flatD, sameD]
  · rw [if_neg hc] at h ⊢
    have h1 := take_ok m G (show T.drop i = c :: rest from h)
    rw [show ((i + ([c] : Txt).length : Nat) : Int) = (i : Int) + 1 from rfl]
    generalize sem codes (m + 2) = S at *
    generalize sem' codes (m + 2) = S' at *
    simp [special] at hc
    have hb : ∀ z : Nat, c ≠ z → (c == z) = false := fun z hz => by simp [hz]
    have b1 : (c == 46) = false := hb 46 (by omega)
    have b2 : (c == 94) = false := hb 94 (by omega)
    have b3 : (c == 36) = false := hb 36 (by omega)
    simp -implicitDefEqProofs [c_Reader_one, h1, List.lookup, inD, flatD, sameD, hc, b1, b2, b3]
end Rd
end HT

namespace HT
open Sk
namespace Rd
/-- a part's text within a row -/
def ptxt (q : Pat) : Txt := wrapT q.isAlt (wr q)
theorem wrI_eq : ∀ ps : List Pat, wrI ps = ps.map ptxt
  | [] => rfl
  | p :: ps => by simp [wrI, ptxt, wrI_eq ps]
def Pat.isRow : Pat → Bool
  | .row _ => true
  | _ => false
mutual
/-- what can be read back -/
def Rp : Pat → Prop
  | .row ps => ps.length ≠ 1 ∧ Rps ps ∧ ∀ q ∈ ps, Pat.isRow q = false
  | .alt ps => Rps ps ∧ ∀ q ∈ ps, q.isAlt = false
  | .times _ _ _ p => Rp p
  | .group _ p => Rp p
  | .have_ _ p q => Rp p ∧ Rp q
  | .look _ p => Rp p
  | _ => True
def Rps : List Pat → Prop
  | [] => True
  | p :: ps => Rp p ∧ Rps ps
end
mutual
/-- few enough beside each other, memories of groups that there are -/
def Lk (K : Nat) : Pat → Prop
  | .row ps => ps.length ≤ 8 ∧ Lks K ps
  | .alt ps => ps.length ≤ 8 ∧ Lks K ps
  | .times _ _ _ p => Lk K p
  | .group _ p => Lk K p
  | .have_ k p q => (1 ≤ k ∧ k ≤ K) ∧ Lk K p ∧ Lk K q
  | .look _ p => Lk K p
  | .again k => 1 ≤ k ∧ k ≤ K
  | _ => True
def Lks (K : Nat) : List Pat → Prop
  | [] => True
  | p :: ps => Lk K p ∧ Lks K ps
end
theorem lk_parts {K : Nat} : ∀ {p : Pat}, Lk K p → Lks K p.parts ∧ p.parts.length ≤ 8
  | .row ps, h => by simp only [Lk] at h; exact ⟨h.2, h.1⟩
  | .alt ps, h => by simp only [Lk] at h; exact ⟨h.2, h.1⟩
  | .times _ _ _ p, h => by simp only [Lk] at h; exact ⟨⟨h, trivial⟩, by simp [Pat.parts]⟩
  | .group _ p, h => by simp only [Lk] at h; exact ⟨⟨h, trivial⟩, by simp [Pat.parts]⟩
  | .have_ _ p q, h => by simp only [Lk] at h; exact ⟨⟨h.2.1, h.2.2, trivial⟩, by simp [Pat.parts]⟩
  | .look _ p, h => by simp only [Lk] at h; exact ⟨⟨h, trivial⟩, by simp [Pat.parts]⟩
  | .sign _, _ => ⟨trivial, by simp [Pat.parts]⟩
  | .any, _ => ⟨trivial, by simp [Pat.parts]⟩
  | .runs _ _, _ => ⟨trivial, by simp [Pat.parts]⟩
  | .edge _, _ => ⟨trivial, by simp [Pat.parts]⟩
  | .again _, _ => ⟨trivial, by simp [Pat.parts]⟩
theorem nd_parts : ∀ p : Pat, p.nd = nds p.parts + 1
  | .row ps => rfl
  | .alt ps => rfl
  | .times _ _ _ p => by simp [Pat.nd, nds, Pat.parts]
  | .group _ p => by simp [Pat.nd, nds, Pat.parts]
  | .have_ _ p q => by simp [Pat.nd, nds, Pat.parts]
  | .look _ p => by simp [Pat.nd, nds, Pat.parts]
  | .sign _ => by simp [Pat.nd, nds, Pat.parts]
  | .any => by simp [Pat.nd, nds, Pat.parts]
  | .runs _ _ => by simp [Pat.nd, nds, Pat.parts]
  | .edge _ => by simp [Pat.nd, nds, Pat.parts]
  | .again _ => by simp [Pat.nd, nds, Pat.parts]
end Rd
end HT

namespace HT
open Sk
namespace Ex
open Rd
mutual
/-- what the Reader makes: of depth d at the most -/
def Rw : Nat → Pat → Prop
  | _, .sign c => Sg c
  | _, .any => True
  | _, .runs _ rs => rs.length ≤ 100000 ∧ ∀ r ∈ rs, Sg r.1 ∧ Sg r.2
  | _, .edge _ => True
  | _, .again n => n ≤ 9
  | d, .row ps => ps.length ≤ 100000 ∧ match d with
    | 0 => ps = []
    | d + 1 => Rws d ps
  | d, .alt ps => 2 ≤ ps.length ∧ ps.length ≤ 100000 ∧ match d with
    | 0 => False
    | d + 1 => Rws d ps
  | d, .times lo hi _ p => lo ≤ 9 ∧ hiOk lo hi ∧ match d with
    | 0 => False
    | d + 1 => Rw d p
  | d, .group n p => match d with
    | 0 => False
    | d + 1 => Rw d p
  | d, .have_ n p q => n ≤ 9 ∧ match d with
    | 0 => False
    | d + 1 => Rw d p ∧ Rw d q
  | d, .look _ p => match d with
    | 0 => False
    | d + 1 => Rw d p
def Rws : Nat → List Pat → Prop
  | _, [] => True
  | d, p :: ps => Rw d p ∧ Rws d ps
end
mutual
theorem Rw.succ : ∀ {d : Nat} {p : Pat}, Rw d p → Rw (d + 1) p
  | _, .sign c, h => by simpa [Rw] using h
  | _, .any, _ => by simp [Rw]
  | _, .runs _ rs, h => by simpa [Rw] using h
  | _, .edge _, _ => by simp [Rw]
  | _, .again n, h => by simpa [Rw] using h
  | 0, .row ps, h => by simp [Rw] at h; simp [Rw, h.2, Rws]
  | d + 1, .row ps, h => by simp only [Rw] at h ⊢; exact ⟨h.1, Rws.succ h.2⟩
  | 0, .alt ps, h => by simp [Rw] at h
  | d + 1, .alt ps, h => by simp only [Rw] at h ⊢; exact ⟨h.1, h.2.1, Rws.succ h.2.2⟩
  | 0, .times _ _ _ p, h => by simp [Rw] at h
  | d + 1, .times _ _ _ p, h => by simp only [Rw] at h ⊢; exact ⟨h.1, h.2.1, Rw.succ h.2.2⟩
  | 0, .group _ p, h => by simp [Rw] at h
  | d + 1, .group _ p, h => by simp only [Rw] at h ⊢; exact Rw.succ h
  | 0, .have_ _ p q, h => by simp [Rw] at h
  | d + 1, .have_ _ p q, h => by simp only [Rw] at h ⊢; exact ⟨h.1, Rw.succ h.2.1, Rw.succ h.2.2⟩
  | 0, .look _ p, h => by simp [Rw] at h
  | d + 1, .look _ p, h => by simp only [Rw] at h ⊢; exact Rw.succ h
theorem Rws.succ : ∀ {d : Nat} {p : List Pat}, Rws d p → Rws (d + 1) p
  | _, [], _ => by simp [Rws]
  | _, p :: ps, h => by simp only [Rws] at h ⊢; exact ⟨Rw.succ h.1, Rws.succ h.2⟩
end
theorem Rw.mono {d e : Nat} {p : Pat} (h : Rw d p) (k : d ≤ e) : Rw e p := by
  induction k with
  | refl => exact h
  | step _ ih => exact ih.succ
/-- a whole was read from i to j -/
structure WoP (T : Txt) (d i G : Nat) (p : Pat) (j G' : Nat) : Prop where
  le : i + (wr p).length ≤ j
  ub : j ≤ T.length
  rp : i + (wr p).length = j → Rp p
  nm : num G p = some G'
  rw : Rw d p
def WoOr (S : Nat → FSem) (T : Txt) (d N : Nat) : Prop := ∀ i G : Nat, i ≤ T.length → S i_Reader_whole [rs T i G, .d (.int N)] = .exc "Unread" ∨ ∃ (p : Pat) (j G' : Nat), S i_Reader_whole [rs T i G, .d (.int N)] = .ok (.d (enc p)) [rs T j G', .d (.int N)] ∧ WoP T d i G p j G'
/-- one part was read from i to j -/
structure OneP (T : Txt) (d i G : Nat) (p : Pat) (j G' : Nat) : Prop where
  lt : i < j
  le : i + (wrapT p.isCmp (wr p)).length ≤ j
  ub : j ≤ T.length
  rp : i + (wrapT p.isCmp (wr p)).length = j → Rp p
  ro : i + (ptxt p).length = j → Pat.isRow p = false
  nm : num G p = some G'
  rw : Rw d p
theorem wrap_len (b : Bool) (t : Txt) : (wrapT b t).length = t.length + if b then 3 else 0 := by cases b <;> simp [wrapT]
theorem alt_cmp {p : Pat} (h : p.isAlt = true) : p.isCmp = true := by cases p <;> first | rfl | cases h
theorem br_or (m : Nat) (T : Txt) (d N : Nat) (hw : WoOr (sem codes (m + 3)) T d (N + 1)) (i G : Nat) (hi : i + 1 ≤ T.length) : sem codes (m + 4) i_Reader_bracket [rs T ((i + 1 : Nat) : Int) G, .d (.int N)] = .exc "Unread" ∨ ∃ (p : Pat) (j G' : Nat), sem codes (m + 4) i_Reader_bracket [rs T ((i + 1 : Nat) : Int) G, .d (.int N)] = .ok (.d (enc p)) [rs T j G', .d (.int N)] ∧ OneP T (d + 1) i G p j G' := by
  cases hd : T.drop (i + 1) with
  | nil =>
    left
    have h1 := take_exc (m + 1) G hd
    rw [sem_c rfl]
    generalize ((i + 1 : Nat) : Int) = J at *
    generalize sem codes (m + 3) = S at *
    generalize sem' codes (m + 3) = S' at *
    simp -implicitDefEqProofs [c_Reader_bracket, h1]
  | cons c rest =>
    have h1 := Rd.take_ok (m + 1) G hd
    have li := (drop_lt hd).1
    have h1 : sem codes (m + 3) i_Reader_take [rs T ((i + 1 : Nat) : Int) G] = .ok (.d (.str [c])) [rs T ((i + 1 + 1 : Nat) : Int) G] := h1
    have qN : ((N + 1 : Nat) : Int) = (N : Int) + 1 := rfl
    rcases hw (i + 1 + 1) G li with h2 | ⟨p, j1, G1, h2, hp⟩
    · left
      rw [qN] at h2
      rw [sem_c rfl]
      generalize ((i + 1 + 1 : Nat) : Int) = J1 at *
      generalize ((i + 1 : Nat) : Int) = J at *
      generalize sem codes (m + 3) = S at *
      generalize sem' codes (m + 3) = S' at *
      simp -implicitDefEqProofs [c_Reader_bracket, h1, h2]
    · rw [qN] at h2
      obtain ⟨pl, pu, pr, pn, pw⟩ := hp
      by_cases hdig : 48 ≤ c ∧ c ≤ 57
      · obtain ⟨k, rfl⟩ : ∃ k, c = 48 + k := ⟨c - 48, by omega⟩
        have hk : k ≤ 9 := by omega
        have hin := dig_in k hk
        have b1 : 48 ≤ 48 + k := by omega
        have b2 : 48 + k ≤ 57 := by omega
        have b3 : ((48 + k : Nat) : Int) - 48 = (k : Int) := by omega
        rcases want_or m T j1 G1 126 with h3 | ⟨r3, hd3, h3⟩
        · left
          rw [sem_c rfl]
          generalize ((i + 1 + 1 : Nat) : Int) = J1 at *
          generalize ((i + 1 : Nat) : Int) = J at *
          generalize (j1 : Int) = J2 at *
          generalize enc p = E at *
          generalize sem codes (m + 3) = S at *
          generalize sem' codes (m + 3) = S' at *
          generalize 48 + k = dk at *
          simp -implicitDefEqProofs [c_Reader_bracket, h1, h2, h3, hin, b1, b2, b3]
        · have l3 := (drop_lt hd3).1
          rcases hw (j1 + 1) G1 l3 with h4 | ⟨q, j2, G2, h4, hq⟩
          · left
            rw [qN] at h4
            rw [sem_c rfl]
            generalize ((i + 1 + 1 : Nat) : Int) = J1 at *
            generalize ((i + 1 : Nat) : Int) = J at *
            generalize ((j1 + 1 : Nat) : Int) = J3 at *
            generalize (j1 : Int) = J2 at *
            generalize enc p = E at *
            generalize sem codes (m + 3) = S at *
            generalize sem' codes (m + 3) = S' at *
            generalize 48 + k = dk at *
            simp -implicitDefEqProofs [c_Reader_bracket, h1, h2, h3, h4, hin, b1, b2, b3]
          · rw [qN] at h4
            obtain ⟨ql, qu, qr, qn, qw⟩ := hq
            rcases want_or m T j2 G2 62 with h5 | ⟨r5, hd5, h5⟩
            · left
              rw [sem_c rfl]
              generalize ((i + 1 + 1 : Nat) : Int) = J1 at *
              generalize ((i + 1 : Nat) : Int) = J at *
              generalize ((j1 + 1 : Nat) : Int) = J3 at *
              generalize (j1 : Int) = J2 at *
              generalize (j2 : Int) = J4 at *
              generalize enc p = E at *
              generalize enc q = E2 at *
              generalize sem codes (m + 3) = S at *
              generalize sem' codes (m + 3) = S' at *
              generalize 48 + k = dk at *
              simp -implicitDefEqProofs [c_Reader_bracket, h1, h2, h3, h4, h5, hin, b1, b2, b3]
            · right
              have l5 := (drop_lt hd5).1
              have hlen : (wr (.have_ k p q)).length = (wr p).length + (wr q).length + 4 := by simp [wr]; omega
              refine ⟨.have_ k p q, j2 + 1, G2, ?_, ⟨by omega, by rw [wrap_len]; simp [Pat.isCmp]; omega, by omega, ?_, fun _ => rfl, by simp [num, pn, qn], by simp only [Rw]; exact ⟨hk, pw, qw⟩⟩⟩
              · rw [sem_c rfl]
                rw [show enc (.have_ k p q) = .tup [.str [104, 97, 118, 101], .int k, enc p, enc q] from rfl]
                generalize ((i + 1 + 1 : Nat) : Int) = J1 at *
                generalize ((i + 1 : Nat) : Int) = J at *
                generalize ((j1 + 1 : Nat) : Int) = J3 at *
                generalize ((j2 + 1 : Nat) : Int) = J5 at *
                generalize (j1 : Int) = J2 at *
                generalize (j2 : Int) = J4 at *
                generalize enc p = E at *
                generalize enc q = E2 at *
                generalize sem codes (m + 3) = S at *
                generalize sem' codes (m + 3) = S' at *
                generalize 48 + k = dk at *
                simp -implicitDefEqProofs [c_Reader_bracket, h1, h2, h3, h4, h5, hin, b1, b2, b3]
              · intro he
                rw [wrap_len, hlen] at he
                simp only [Pat.isCmp, Bool.false_eq_true, if_false] at he
                simp only [Rp]
                exact ⟨pr (by omega), qr (by omega)⟩
      · obtain ⟨n0, n1, n2, n3, n4, n5, n6, n7, n8, n9⟩ := not_dig hdig
        by_cases hcol : c = 58
        · subst hcol
          rcases want_or m T j1 G1 62 with h3 | ⟨r3, hd3, h3⟩
          · left
            rw [sem_c rfl]
            generalize ((i + 1 + 1 : Nat) : Int) = J1 at *
            generalize ((i + 1 : Nat) : Int) = J at *
            generalize (j1 : Int) = J2 at *
            generalize enc p = E at *
            generalize sem codes (m + 3) = S at *
            generalize sem' codes (m + 3) = S' at *
            simp -implicitDefEqProofs [c_Reader_bracket, h1, h2, h3]
          · right
            have l3 := (drop_lt hd3).1
            refine ⟨p, j1 + 1, G1, ?_, ⟨by omega, by rw [wrap_len]; split <;> omega, by omega, ?_, ?_, pn, pw.succ⟩⟩
            · rw [sem_c rfl]
              generalize ((i + 1 + 1 : Nat) : Int) = J1 at *
              generalize ((i + 1 : Nat) : Int) = J at *
              generalize ((j1 + 1 : Nat) : Int) = J3 at *
              generalize (j1 : Int) = J2 at *
              generalize enc p = E at *
              generalize sem codes (m + 3) = S at *
              generalize sem' codes (m + 3) = S' at *
              simp -implicitDefEqProofs [c_Reader_bracket, h1, h2, h3]
            · intro he
              rw [wrap_len] at he
              split at he
              · exact pr (by omega)
              · omega
            · intro he
              rw [ptxt, wrap_len] at he
              by_cases ha : p.isAlt = true
              · cases p <;> first | rfl | cases ha
              · rw [if_neg ha] at he; omega
        · by_cases hlk : ∃ k : Look, c = k.m
          · obtain ⟨k, rfl⟩ := hlk
            have f0 : Fit1 0 := fit1_of (by decide)
            rcases want_or m T j1 G1 62 with h3 | ⟨r3, hd3, h3⟩
            · left
              rw [sem_c rfl]
              generalize ((i + 1 + 1 : Nat) : Int) = J1 at *
              generalize ((i + 1 : Nat) : Int) = J at *
              generalize (j1 : Int) = J2 at *
              generalize enc p = E at *
              generalize sem codes (m + 3) = S at *
              generalize sem' codes (m + 3) = S' at *
              cases k <;> simp only [Look.m] at h1 <;> simp -implicitDefEqProofs [c_Reader_bracket, h1, h2, h3, f0]
            · right
              have l3 := (drop_lt hd3).1
              have hlen : (wr (.look k p)).length = (wr p).length + 3 := by simp [wr]
              refine ⟨.look k p, j1 + 1, G1, ?_, ⟨by omega, by rw [wrap_len, hlen]; simp [Pat.isCmp]; omega, by omega, ?_, fun _ => rfl, by simp [num, pn], by simp only [Rw]; exact pw⟩⟩
              · rw [sem_c rfl]
                rw [show enc (.look k p) = .tup [.str k.t, enc p] from rfl]
                generalize ((i + 1 + 1 : Nat) : Int) = J1 at *
                generalize ((i + 1 : Nat) : Int) = J at *
                generalize ((j1 + 1 : Nat) : Int) = J3 at *
                generalize (j1 : Int) = J2 at *
                generalize enc p = E at *
                generalize sem codes (m + 3) = S at *
                generalize sem' codes (m + 3) = S' at *
                cases k <;> simp only [Look.m] at h1 <;> simp -implicitDefEqProofs [c_Reader_bracket, h1, h2, h3, Look.t, f0]
              · intro he
                rw [wrap_len, hlen] at he
                simp only [Pat.isCmp, Bool.false_eq_true, if_false] at he
                simp only [Rp]
                exact pr (by omega)
          · left
            have m1 : ¬ 33 = c := fun z => hlk ⟨.once, z.symm⟩
            have m2 : ¬ 43 = c := fun z => hlk ⟨.ahead, z.symm⟩
            have m3 : ¬ 45 = c := fun z => hlk ⟨.notahead, z.symm⟩
            have m4 : ¬ 42 = c := fun z => hlk ⟨.behind, z.symm⟩
            have m5 : ¬ 47 = c := fun z => hlk ⟨.notbehind, z.symm⟩
            have f0 : Fit1 0 := fit1_of (by decide)
            rw [sem_c rfl]
            generalize ((i + 1 + 1 : Nat) : Int) = J1 at *
            generalize ((i + 1 : Nat) : Int) = J at *
            generalize (j1 : Int) = J2 at *
            generalize enc p = E at *
            generalize sem codes (m + 3) = S at *
            generalize sem' codes (m + 3) = S' at *
            simp -implicitDefEqProofs [c_Reader_bracket, h1, h2, n0, n1, n2, n3, n4, n5, n6, n7, n8, n9, hcol, m1, m2, m3, m4, m5, f0]
end Ex
end HT

namespace HT
open Sk
namespace Ex
open Rd
theorem leafP {T : Txt} {d i G j : Nat} {p : Pat} (hc : p.isCmp = false) (hr : Pat.isRow p = false) (hp : Rp p) (hn : num G p = some G) (hw : Rw d p) (hlt : i < j) (hle : i + (wr p).length ≤ j) (hub : j ≤ T.length) : OneP T d i G p j G :=
  ⟨hlt, by rw [wrap_len, hc]; simpa using hle, hub, fun _ => hp, fun _ => hr, hn, hw⟩
theorem spec_cases {c : Nat} (h : c ∈ special) (h1 : c ≠ 92) (h2 : c ≠ 46) (h3 : c ≠ 91) (h4 : c ≠ 40) (h5 : c ≠ 60) (h6 : c ≠ 94) (h7 : c ≠ 36) (h8 : c ≠ 38) : c = 93 ∨ c = 41 ∨ c = 123 ∨ c = 125 ∨ c = 62 ∨ c = 124 ∨ c = 126 := by
  simp [special] at h; omega
theorem one_or (m : Nat) (T : Txt) (hT : ∀ c ∈ T, Sg c) (hTl : T.length ≤ 100000) (d N : Nat) (hw4 : WoOr (sem codes (m + 4)) T d (N + 1)) (hw3 : WoOr (sem codes (m + 3)) T d (N + 1)) (i G : Nat) : sem codes (m + 5) i_Reader_one [rs T i G, .d (.int N)] = .exc "Unread" ∨ ∃ (p : Pat) (j G' : Nat), sem codes (m + 5) i_Reader_one [rs T i G, .d (.int N)] = .ok (.d (enc p)) [rs T j G', .d (.int N)] ∧ OneP T (d + 1) i G p j G' := by
  have qN : ((N + 1 : Nat) : Int) = (N : Int) + 1 := rfl
  cases hd : T.drop i with
  | nil =>
    left
    have h1 := take_exc (m + 2) G hd
    rw [sem_c rfl]
    generalize sem codes (m + 4) = S at *
    generalize sem' codes (m + 4) = S' at *
    simp -implicitDefEqProofs [c_Reader_one, h1]
  | cons c rest =>
    have h1 := Rd.take_ok (m + 2) G hd
    have li := (drop_lt hd).1
    have hcT := (drop_lt hd).2
    have h1 : sem codes (m + 4) i_Reader_take [rs T i G] = .ok (.d (.str [c])) [rs T ((i + 1 : Nat) : Int) G] := h1
    by_cases c1 : c = 40
    · subst c1
      rcases hw4 (i + 1) (G + 1) li with h2 | ⟨p, j1, G1, h2, hp⟩
      · left
        rw [qN, show ((G + 1 : Nat) : Int) = (G : Int) + 1 from rfl] at h2
        rw [sem_c rfl]
        generalize ((i + 1 : Nat) : Int) = J at *
        clear hw4 hw3
        generalize sem codes (m + 4) = S at *
        generalize sem' codes (m + 4) = S' at *
        simp -implicitDefEqProofs [c_Reader_one, h1, h2]
      · rw [qN, show ((G + 1 : Nat) : Int) = (G : Int) + 1 from rfl] at h2
        obtain ⟨pl, pu, pr, pn, pw⟩ := hp
        rcases want_or (m + 1) T j1 G1 41 with h3 | ⟨r3, hd3, h3⟩
        · left
          rw [sem_c rfl]
          generalize ((i + 1 : Nat) : Int) = J at *
          generalize (j1 : Int) = J1 at *
          generalize enc p = E at *
          clear hw4 hw3
          generalize sem codes (m + 4) = S at *
          generalize sem' codes (m + 4) = S' at *
          simp -implicitDefEqProofs [c_Reader_one, h1, h2, h3]
        · right
          have l3 := (drop_lt hd3).1
          have hlen : (wr (.group (G + 1) p)).length = (wr p).length + 2 := by simp [wr]
          refine ⟨.group (G + 1) p, j1 + 1, G1, ?_, ⟨by omega, by rw [wrap_len, hlen]; simp [Pat.isCmp]; omega, by omega, ?_, fun _ => rfl, by simp [num, pn], by simp only [Rw]; exact pw⟩⟩
          · rw [sem_c rfl]
            rw [show enc (.group (G + 1) p) = .tup [.str [103, 114, 111, 117, 112], .int ((G : Int) + 1), enc p] from rfl]
            generalize ((i + 1 : Nat) : Int) = J at *
            generalize ((j1 + 1 : Nat) : Int) = J2 at *
            generalize (j1 : Int) = J1 at *
            generalize enc p = E at *
            clear hw4 hw3
            generalize sem codes (m + 4) = S at *
            generalize sem' codes (m + 4) = S' at *
            simp -implicitDefEqProofs [c_Reader_one, h1, h2, h3]
          · intro he
            rw [wrap_len, hlen] at he
            simp only [Pat.isCmp, Bool.false_eq_true, if_false] at he
            simp only [Rp]
            exact pr (by omega)
    by_cases c2 : c = 60
    · subst c2
      rcases br_or m T d N hw3 i G li with h2 | ⟨p, j, G', h2, hp⟩
      · left
        rw [sem_c rfl]
        generalize ((i + 1 : Nat) : Int) = J at *
        clear hw4 hw3
        generalize sem codes (m + 4) = S at *
        generalize sem' codes (m + 4) = S' at *
        simp -implicitDefEqProofs [c_Reader_one, h1, h2]
      · right
        refine ⟨p, j, G', ?_, hp⟩
        rw [sem_c rfl]
        clear hp
        generalize ((i + 1 : Nat) : Int) = J at *
        generalize (j : Int) = J1 at *
        generalize enc p = E at *
        clear hw4 hw3
        generalize sem codes (m + 4) = S at *
        generalize sem' codes (m + 4) = S' at *
        simp -implicitDefEqProofs [c_Reader_one, h1, h2]
    by_cases c3 : c = 91
    · subst c3
      rcases signs_or m T hT hTl (i + 1) G li with h2 | ⟨o, l, j, h2, q1, q2, q3, q4, q5⟩
      · left
        rw [sem_c rfl]
        generalize ((i + 1 : Nat) : Int) = J at *
        clear hw4 hw3
        generalize sem codes (m + 4) = S at *
        generalize sem' codes (m + 4) = S' at *
        simp -implicitDefEqProofs [c_Reader_one, h1, h2]
      · right
        refine ⟨.runs o l, j, G, ?_, leafP rfl rfl (by simp only [Rp]) rfl (by simp only [Rw]; exact ⟨q4, q5⟩) (by omega) (by omega) q2⟩
        rw [sem_c rfl]
        generalize ((i + 1 : Nat) : Int) = J at *
        generalize (j : Int) = J1 at *
        generalize enc (.runs o l) = E at *
        clear hw4 hw3
        generalize sem codes (m + 4) = S at *
        generalize sem' codes (m + 4) = S' at *
        simp -implicitDefEqProofs [c_Reader_one, h1, h2]
    by_cases c4 : c = 38
    · subst c4
      rcases figure_or (m + 1) T (i + 1) G with h2 | ⟨k, r2, hk, hd2, h2⟩
      · left
        rw [sem_c rfl]
        generalize ((i + 1 : Nat) : Int) = J at *
        clear hw4 hw3
        generalize sem codes (m + 4) = S at *
        generalize sem' codes (m + 4) = S' at *
        simp -implicitDefEqProofs [c_Reader_one, h1, h2]
      · right
        have l2 := (drop_lt hd2).1
        refine ⟨.again k, i + 1 + 1, G, ?_, leafP rfl rfl (by simp only [Rp]) rfl (by simp only [Rw]; exact hk) (by omega) (by simp [wr]) (by omega)⟩
        rw [sem_c rfl]
        rw [show enc (.again k) = .tup [.str [97, 103, 97, 105, 110], .int k] from rfl]
        generalize ((i + 1 : Nat) : Int) = J at *
        generalize ((i + 1 + 1 : Nat) : Int) = J1 at *
        generalize (k : Int) = K at *
        clear hw4 hw3
        generalize sem codes (m + 4) = S at *
        generalize sem' codes (m + 4) = S' at *
        simp -implicitDefEqProofs [c_Reader_one, h1, h2]
    by_cases c5 : c = 46
    · subst c5
      exact .inr ⟨.any, i + 1, G, one_any (m + 2) G (.int N) hd, leafP rfl rfl (by simp only [Rp]) rfl (by simp only [Rw]) (by omega) (by simp [wr]) (by omega)⟩
    by_cases c6 : c = 94
    · subst c6
      exact .inr ⟨.edge false, i + 1, G, one_edge (m + 2) G (.int N) false hd, leafP rfl rfl (by simp only [Rp]) rfl (by simp only [Rw]) (by omega) (by simp [wr]) (by omega)⟩
    by_cases c7 : c = 36
    · subst c7
      exact .inr ⟨.edge true, i + 1, G, one_edge (m + 2) G (.int N) true hd, leafP rfl rfl (by simp only [Rp]) rfl (by simp only [Rw]) (by omega) (by simp [wr]) (by omega)⟩
    by_cases c8 : c = 92
    · subst c8
      cases hd2 : T.drop (i + 1) with
      | nil =>
        left
        have h2 := take_exc (m + 2) G hd2
        have h2 : sem codes (m + 4) i_Reader_take [rs T ((i + 1 : Nat) : Int) G] = .exc "Unread" := h2
        rw [sem_c rfl]
        generalize ((i + 1 : Nat) : Int) = J at *
        clear hw4 hw3
        generalize sem codes (m + 4) = S at *
        generalize sem' codes (m + 4) = S' at *
        simp -implicitDefEqProofs [c_Reader_one, h1, h2, List.lookup, inD, flatD, sameD]
      | cons c rest2 =>
        have e2 : rest = c :: rest2 := (drop_one hd).symm.trans hd2
        subst e2
        have l2 := (drop_lt hd2).1
        by_cases hs : c ∈ special
        · have e : T.drop i = sgn special c ++ rest2 := by rw [hd]; simp [sgn, hs]
          have hl : (sgn special c).length = 2 := by simp [sgn, hs]
          exact .inr ⟨.sign c, i + (sgn special c).length, G, one_sign (m + 2) G (.int N) c e, leafP rfl rfl (by simp only [Rp]) rfl (by simp only [Rw]; exact hT c (drop_lt hd2).2) (by omega) (by simp [wr]) (by omega)⟩
        · left
          have h2 := Rd.take_ok (m + 2) G hd2
          have h2 : sem codes (m + 4) i_Reader_take [rs T ((i + 1 : Nat) : Int) G] = .ok (.d (.str [c])) [rs T ((i + 1 + 1 : Nat) : Int) G] := h2
          rw [sem_c rfl]
          simp [special] at hs
          generalize ((i + 1 + 1 : Nat) : Int) = J1 at *
          generalize ((i + 1 : Nat) : Int) = J at *
          clear hw4 hw3
          generalize sem codes (m + 4) = S at *
          generalize sem' codes (m + 4) = S' at *
          simp -implicitDefEqProofs [c_Reader_one, h1, h2, List.lookup, inD, flatD, sameD, hs]
    by_cases hs : c ∈ special
    · left
      have := spec_cases hs c8 c5 c3 c1 c2 c6 c7 c4
      rw [sem_c rfl]
      generalize ((i + 1 : Nat) : Int) = J at *
      clear hw4 hw3
      generalize sem codes (m + 4) = S at *
      generalize sem' codes (m + 4) = S' at *
      have b1 : (c == 46) = false := by simpa using c5
      have b2 : (c == 94) = false := by simpa using c6
      have b3 : (c == 36) = false := by simpa using c7
      clear hs hd hcT
      simp -implicitDefEqProofs [c_Reader_one, h1, List.lookup, inD, flatD, sameD, c1, c2, c3, c4, c5, c6, c7, c8, b1, b2, b3, this]
    · have e : T.drop i = sgn special c ++ rest := by rw [hd]; simp [sgn, hs]
      have hl : (sgn special c).length = 1 := by simp [sgn, hs]
      exact .inr ⟨.sign c, i + (sgn special c).length, G, one_sign (m + 2) G (.int N) c e, leafP rfl rfl (by simp only [Rp]) rfl (by simp only [Rw]; exact hT c hcT) (by omega) (by simp [wr]) (by omega)⟩
end Ex
end HT

namespace HT
open Sk
namespace Ex
open Rd
def OneOr (S : Nat → FSem) (T : Txt) (d N : Nat) : Prop := ∀ i G : Nat, S i_Reader_one [rs T i G, .d (.int N)] = .exc "Unread" ∨ ∃ (p : Pat) (j G' : Nat), S i_Reader_one [rs T i G, .d (.int N)] = .ok (.d (enc p)) [rs T j G', .d (.int N)] ∧ OneP T d i G p j G'
/-- one part with its turns -/
structure PartP (T : Txt) (d i G : Nat) (p : Pat) (j G' : Nat) : Prop where
  lt : i < j
  le : i + (ptxt p).length ≤ j
  ub : j ≤ T.length
  rp : i + (ptxt p).length = j → Rp p ∧ Pat.isRow p = false
  nm : num G p = some G'
  rw : Rw d p
theorem ptxt_le (p : Pat) : (ptxt p).length ≤ (wrapT p.isCmp (wr p)).length := by
  rw [ptxt, wrap_len, wrap_len]
  by_cases h : p.isAlt = true
  · rw [if_pos h, if_pos (alt_cmp h)]; omega
  · rw [if_neg h]; omega
theorem part_or (m : Nat) (T : Txt) (d N : Nat) (ho : OneOr (sem codes (m + 4)) T d N) (i G : Nat) : (sem codes (m + 4) i_Reader_one [rs T i G, .d (.int N)] = .exc "Unread") ∨ (∃ (x : D) (j G' : Nat), sem codes (m + 4) i_Reader_one [rs T i G, .d (.int N)] = .ok (.d x) [rs T j G', .d (.int N)] ∧ (sem codes (m + 4) i_Reader_turned [rs T j G', .d x] = .exc "Unread" ∨ ∃ (p : Pat) (z : D) (j2 : Nat), sem codes (m + 4) i_Reader_turned [rs T j G', .d x] = .ok (.d (enc p)) [rs T j2 G', .d z] ∧ PartP T (d + 1) i G p j2 G')) := by
  rcases ho i G with h | ⟨p, j, G', h, hp⟩
  · exact .inl h
  · right
    refine ⟨enc p, j, G', h, ?_⟩
    have hpl := ptxt_le p
    obtain ⟨q1, q2, q3, q4, q5, q6, q7⟩ := hp
    rcases turned_or m T j G' (enc p) q3 with h2 | ⟨y, z, j2, h2, l2, ⟨rfl, rfl⟩ | ⟨lo, hi, how, rfl, rfl, hlo, hhi⟩⟩
    · exact .inl h2
    · exact .inr ⟨p, z, j2, h2, q1, by omega, q3, fun he => ⟨q4 (by omega), q5 he⟩, q6, q7.succ⟩
    · right
      have hlen : (ptxt (.times lo hi how p)).length = (wrapT p.isCmp (wr p)).length + (4 + (hiT hi).length + how.m.length) := by
        rw [ptxt, wrap_len]; simp [wr, Pat.isAlt]; omega
      refine ⟨.times lo hi how p, z, _, h2, by omega, by omega, l2, fun he => ⟨?_, rfl⟩, by simp only [num]; exact q6, by simp only [Rw]; exact ⟨hlo, hhi, q7⟩⟩
      simp only [Rp]
      exact q4 (by omega)
/-- what parts are read as -/
structure PartsP (T : Txt) (d i G : Nat) (ps : List Pat) (j G' : Nat) : Prop where
  le : i + (wrI ps).flatten.length ≤ j
  ub : j ≤ T.length
  rp : i + (wrI ps).flatten.length = j → Rps ps ∧ ∀ q ∈ ps, Pat.isRow q = false
  nm : nums G ps = some G'
  rw : Rws d ps
theorem wrI_len (p : Pat) (ps : List Pat) : (wrI (p :: ps)).flatten.length = (ptxt p).length + (wrI ps).flatten.length := by simp [wrI, ptxt]
noncomputable abbrev bTx (S : Nat → FSem) : EV := eAnd (eOp opNe (eMeth "Reader" "ahead" (S i_Reader_ahead) (eVar 0) aNil) (eC (.str []))) (eOp opNinS (eMeth "Reader" "ahead" (S i_Reader_ahead) (eVar 0) aNil) (eC (.str [124, 41, 62, 126])))
theorem parts_any (m : Nat) (T : Txt) (hTl : T.length ≤ 100000) (d N : Nat) (ho : OneOr (sem codes (m + 4)) T d N) : ∀ (k i G : Nat) (acc : List D), T.length - i ≤ k → i ≤ T.length → acc.length ≤ i →
    ∃ K, (∃ r, whileN (bTx (sem codes (m + 4))) (l_Reader_branch_1 (sem codes (m + 4)) (sem' codes (m + 4))) K [rs T i G, .d (.int N), .own false acc] = .ex "Unread" r) ∨
      ∃ (ps : List Pat) (j G' : Nat), whileN (bTx (sem codes (m + 4))) (l_Reader_branch_1 (sem codes (m + 4)) (sem' codes (m + 4))) K [rs T i G, .d (.int N), .own false acc] = .nx [rs T j G', .d (.int N), .own false (acc ++ encs ps)] ∧ PartsP T (d + 1) i G ps j G' ∧ acc.length + ps.length ≤ j
  | k, i, G, acc, hk, hi, hacc => by
    have hend : (tst (bTx (sem codes (m + 4))) [rs T i G, .d (.int N), .own false acc] = .ok false [rs T i G, .d (.int N), .own false acc]) ∨ (i < T.length ∧ tst (bTx (sem codes (m + 4))) [rs T i G, .d (.int N), .own false acc] = .ok true [rs T i G, .d (.int N), .own false acc]) := by
      cases hd : T.drop i with
      | nil =>
        left
        have ha := ahead0 (m + 3) G hd
        clear ho
        generalize sem codes (m + 4) = S at *
        simp -implicitDefEqProofs [ha]
      | cons c tl =>
        have ha := ahead1 (m + 3) G hd
        have li := (drop_lt hd).1
        clear ho
        by_cases hc : c = 124 ∨ c = 41 ∨ c = 62 ∨ c = 126
        · left
          generalize sem codes (m + 4) = S at *
          simp -implicitDefEqProofs [ha, hc]
        · right
          refine ⟨li, ?_⟩
          generalize sem codes (m + 4) = S at *
          simp -implicitDefEqProofs [ha, hc]
    rcases hend with hend | ⟨li, htst⟩
    · exact ⟨1, .inr ⟨[], i, G, by rw [whileN_end hend]; simp [encs], ⟨by simp [wrI], hi, fun _ => ⟨by simp only [Rps], by simp⟩, by simp [nums], by simp only [Rws]⟩, by simpa using hacc⟩⟩
    · rcases part_or m T d N ho i G with h1 | ⟨x, j, G1, h1, h2 | ⟨p, z, j2, h2, hp⟩⟩
      · refine ⟨1, .inl ⟨_, whileN_ex (r2 := [.un, .d (.int N), .own false acc]) htst ?_⟩⟩
        clear ho htst
        generalize sem codes (m + 4) = S at *
        generalize sem' codes (m + 4) = S' at *
        simp -implicitDefEqProofs [l_Reader_branch_1, h1]
      · refine ⟨1, .inl ⟨_, whileN_ex (r2 := [.un, .d (.int N), .own false acc]) htst ?_⟩⟩
        clear ho htst
        generalize sem codes (m + 4) = S at *
        generalize sem' codes (m + 4) = S' at *
        simp -implicitDefEqProofs [l_Reader_branch_1, h1, h2]
      · obtain ⟨q1, q2, q3, q4, q5, q6⟩ := hp
        have hf : Fit1 acc.length := fit1_of (by omega)
        obtain ⟨K, ih⟩ := parts_any m T hTl d N ho (k - 1) j2 G1 (acc ++ [enc p]) (by omega) q3 (by simp; omega)
        have step : whileN (bTx (sem codes (m + 4))) (l_Reader_branch_1 (sem codes (m + 4)) (sem' codes (m + 4))) (K + 1) [rs T i G, .d (.int N), .own false acc] = whileN (bTx (sem codes (m + 4))) (l_Reader_branch_1 (sem codes (m + 4)) (sem' codes (m + 4))) K [rs T j2 G1, .d (.int N), .own false (acc ++ [enc p])] := by
          refine whileN_go htst ?_
          clear ih ho htst
          generalize enc p = E at *
          generalize sem codes (m + 4) = S at *
          generalize sem' codes (m + 4) = S' at *
          simp -implicitDefEqProofs [l_Reader_branch_1, h1, h2, hf]
        refine ⟨K + 1, ?_⟩
        rw [step]
        rcases ih with ⟨r, e⟩ | ⟨ps, j3, G', e, ⟨p1, p2, p3, p4, p5⟩, p6⟩
        · exact .inl ⟨r, e⟩
        · have hl := wrI_len p ps
          refine .inr ⟨p :: ps, j3, G', by rw [e]; simp [encs], ⟨by omega, p2, ?_, by simp [nums, q5, p4], by simp only [Rws]; exact ⟨q6, p5⟩⟩, by simp at p6 ⊢; omega⟩
          intro he
          obtain ⟨a1, a2⟩ := q4 (by omega)
          obtain ⟨b1, b2⟩ := p3 (by omega)
          refine ⟨by simp only [Rps]; exact ⟨a1, b1⟩, ?_⟩
          intro x hx
          rcases List.mem_cons.mp hx with rfl | hx
          · exact a2
          · exact b2 x hx
termination_by k => k
decreasing_by all_goals omega
/-- a branch was read -/
structure BrP (T : Txt) (d i G : Nat) (p : Pat) (j G' : Nat) : Prop where
  le : i + (wr p).length ≤ j
  ub : j ≤ T.length
  rp : i + (wr p).length = j → Rp p ∧ p.isAlt = false
  nm : num G p = some G'
  rw : Rw d p
def BrOr (S : Nat → FSem) (T : Txt) (d N : Nat) : Prop := ∀ i G : Nat, i ≤ T.length → S i_Reader_branch [rs T i G, .d (.int N)] = .exc "Unread" ∨ ∃ (p : Pat) (j G' : Nat), S i_Reader_branch [rs T i G, .d (.int N)] = .ok (.d (enc p)) [rs T j G', .d (.int N)] ∧ BrP T d i G p j G'
theorem branch_or (m : Nat) (T : Txt) (hTl : T.length ≤ 100000) (d N : Nat) (ho : OneOr (sem codes (m + 4)) T d N) : BrOr (sem codes (m + 5)) T (d + 2) N := by
  intro i G hi
  obtain ⟨K, hw⟩ := parts_any m T hTl d N ho T.length i G [] (by omega) hi (by simp)
  clear ho
  rcases hw with ⟨r, e⟩ | ⟨ps, j, G', e, ⟨p1, p2, p3, p4, p5⟩, p6⟩
  · left
    have hw := sWhile_eq K e (by simp)
    rw [sem_c rfl]
    generalize hb : l_Reader_branch_1 (sem codes (m + 4)) (sem' codes (m + 4)) = b at *
    simp only [c_Reader_branch, hb]
    generalize sem codes (m + 4) = S at *
    generalize sem' codes (m + 4) = S' at *
    simp -implicitDefEqProofs [hw]
  · right
    have hw := sWhile_eq K e (by simp)
    rw [List.nil_append] at hw
    simp only [List.length_nil, Nat.zero_add] at p6
    by_cases h1 : ∃ p, ps = [p]
    · obtain ⟨p, rfl⟩ := h1
      have hl : (wrI [p]).flatten.length = (ptxt p).length := by simp [wrI, ptxt]
      have hl2 : (ptxt p).length = (wr p).length + if p.isAlt then 3 else 0 := by rw [ptxt, wrap_len]
      simp only [Rws] at p5
      have p4 : num G p = some G' := by
        simp only [nums] at p4
        cases hn : num G p with
        | none => rw [hn] at p4; cases p4
        | some x => rw [hn] at p4; exact p4
      refine ⟨p, j, G', ?_, ⟨by omega, p2, ?_, p4, p5.1.succ⟩⟩
      · rw [sem_c rfl]
        rw [show encs [p] = [enc p] from rfl] at hw
        generalize (j : Int) = J at *
        generalize enc p = E at *
        generalize hb : l_Reader_branch_1 (sem codes (m + 4)) (sem' codes (m + 4)) = b at *
        simp only [c_Reader_branch, hb]
        generalize sem codes (m + 4) = S at *
        generalize sem' codes (m + 4) = S' at *
        simp -implicitDefEqProofs [hw]
      · intro he
        by_cases ha : p.isAlt = true
        · rw [if_pos ha] at hl2; omega
        · rw [if_neg ha] at hl2
          have := (p3 (by omega)).1
          simp only [Rps] at this
          exact ⟨this.1, Bool.eq_false_iff.mpr ha⟩
    · have hlen1 : ps.length ≠ 1 := by
        intro h
        match ps, h with
        | [p], _ => exact h1 ⟨p, rfl⟩
      have hf : Fits (encs ps).length := fits_of (by rw [encs_len]; omega)
      have hlen : ¬ (encs ps).length = 1 := by rw [encs_len]; exact hlen1
      have hlenI : ¬ ((encs ps).length : Int) = 1 := by omega
      refine ⟨.row ps, j, G', ?_, ⟨p1, p2, ?_, by simp only [num]; exact p4, by simp only [Rw]; exact ⟨by omega, p5⟩⟩⟩
      · rw [sem_c rfl]
        rw [show enc (.row ps) = .tup [.str [114, 111, 119], .tup (encs ps)] from rfl]
        generalize (j : Int) = J at *
        generalize encs ps = E at *
        generalize hb : l_Reader_branch_1 (sem codes (m + 4)) (sem' codes (m + 4)) = b at *
        simp only [c_Reader_branch, hb]
        generalize sem codes (m + 4) = S at *
        generalize sem' codes (m + 4) = S' at *
        simp -implicitDefEqProofs [hw, hlen, hlenI, hf]
      · intro he
        obtain ⟨a1, a2⟩ := p3 he
        exact ⟨by simp only [Rp]; exact ⟨hlen1, a1, a2⟩, rfl⟩
end Ex
end HT

namespace HT
open Sk
namespace Ex
open Rd
def barL (ps : List Pat) : Nat := (ps.map fun q => (wr q).length + 1).sum
theorem alt_len : ∀ (ps : List Pat) (p : Pat), (joinT [124] (wrs (p :: ps))).length = (wr p).length + barL ps
  | [], p => by simp [wrs, joinT, barL]
  | q :: ps, p => by
    have ih := alt_len ps q
    simp only [wrs] at ih ⊢
    show (wr p ++ ([124] ++ joinT [124] (wr q :: wrs ps))).length = _
    rw [List.length_append, List.length_append, ih]
    simp [barL]; omega
structure BrsP (T : Txt) (d i G : Nat) (ps : List Pat) (j G' : Nat) : Prop where
  le : i + barL ps ≤ j
  ub : j ≤ T.length
  rp : i + barL ps = j → Rps ps ∧ ∀ q ∈ ps, q.isAlt = false
  nm : nums G ps = some G'
  rw : Rws d ps
noncomputable abbrev wTx (S : Nat → FSem) : EV := eOp opEq (eMeth "Reader" "ahead" (S i_Reader_ahead) (eVar 0) aNil) (eC (.str [124]))
theorem branches_any (m : Nat) (T : Txt) (hTl : T.length ≤ 90000) (d N : Nat) (ho : BrOr (sem codes (m + 4)) T d N) : ∀ (k i G : Nat) (acc : List D), T.length - i ≤ k → i ≤ T.length → acc.length ≤ i + 1 →
    ∃ K, (∃ r, whileN (wTx (sem codes (m + 4))) (l_Reader_whole_1 (sem codes (m + 4)) (sem' codes (m + 4))) K [rs T i G, .d (.int N), .own false acc] = .ex "Unread" r) ∨
      ∃ (ps : List Pat) (j G' : Nat), whileN (wTx (sem codes (m + 4))) (l_Reader_whole_1 (sem codes (m + 4)) (sem' codes (m + 4))) K [rs T i G, .d (.int N), .own false acc] = .nx [rs T j G', .d (.int N), .own false (acc ++ encs ps)] ∧ BrsP T d i G ps j G' ∧ acc.length + ps.length ≤ j + 1
  | k, i, G, acc, hk, hi, hacc => by
    by_cases hm : ∃ rest, T.drop i = 124 :: rest
    · obtain ⟨rest, hd⟩ := hm
      have li := (drop_lt hd).1
      have htst : tst (wTx (sem codes (m + 4))) [rs T i G, .d (.int N), .own false acc] = .ok true [rs T i G, .d (.int N), .own false acc] := by
        have ha := ahead1 (m + 3) G hd
        clear ho
        generalize sem codes (m + 4) = S at *
        simp -implicitDefEqProofs [ha]
      rcases ho (i + 1) G li with h1 | ⟨p, j2, G1, h1, ⟨q2, q3, q4, q5, q6⟩⟩
      · refine ⟨1, .inl ⟨_, whileN_ex (r2 := [.un, .d (.int N), .own false acc]) htst ?_⟩⟩
        rw [show ((i + 1 : Nat) : Int) = (i : Int) + 1 from rfl] at h1
        clear ho htst
        generalize sem codes (m + 4) = S at *
        generalize sem' codes (m + 4) = S' at *
        simp -implicitDefEqProofs [l_Reader_whole_1, h1]
      · have hf : Fit1 acc.length := fit1_of (by omega)
        obtain ⟨K, ih⟩ := branches_any m T hTl d N ho (k - 1) j2 G1 (acc ++ [enc p]) (by omega) q3 (by simp; omega)
        have step : whileN (wTx (sem codes (m + 4))) (l_Reader_whole_1 (sem codes (m + 4)) (sem' codes (m + 4))) (K + 1) [rs T i G, .d (.int N), .own false acc] = whileN (wTx (sem codes (m + 4))) (l_Reader_whole_1 (sem codes (m + 4)) (sem' codes (m + 4))) K [rs T j2 G1, .d (.int N), .own false (acc ++ [enc p])] := by
          refine whileN_go htst ?_
          rw [show ((i + 1 : Nat) : Int) = (i : Int) + 1 from rfl] at h1
          clear ih ho htst
          generalize enc p = E at *
          generalize sem codes (m + 4) = S at *
          generalize sem' codes (m + 4) = S' at *
          simp -implicitDefEqProofs [l_Reader_whole_1, h1, hf]
        refine ⟨K + 1, ?_⟩
        rw [step]
        rcases ih with ⟨r, e⟩ | ⟨ps, j3, G', e, ⟨p1, p2, p3, p4, p5⟩, p6⟩
        · exact .inl ⟨r, e⟩
        · have hl : barL (p :: ps) = (wr p).length + 1 + barL ps := by simp [barL]
          refine .inr ⟨p :: ps, j3, G', by rw [e]; simp [encs], ⟨by omega, p2, ?_, by simp [nums, q5, p4], by simp only [Rws]; exact ⟨q6, p5⟩⟩, by simp at p6 ⊢; omega⟩
          intro he
          obtain ⟨a1, a2⟩ := q4 (by omega)
          obtain ⟨b1, b2⟩ := p3 (by omega)
          refine ⟨by simp only [Rps]; exact ⟨a1, b1⟩, ?_⟩
          intro x hx
          rcases List.mem_cons.mp hx with rfl | hx
          · exact a2
          · exact b2 x hx
    · have htst : tst (wTx (sem codes (m + 4))) [rs T i G, .d (.int N), .own false acc] = .ok false [rs T i G, .d (.int N), .own false acc] := by
        clear ho
        cases hd : T.drop i with
        | nil =>
          have ha := ahead0 (m + 3) G hd
          generalize sem codes (m + 4) = S at *
          simp -implicitDefEqProofs [ha]
        | cons c tl =>
          have ha := ahead1 (m + 3) G hd
          have hc : ¬ c = 124 := by rintro rfl; exact hm ⟨tl, hd⟩
          generalize sem codes (m + 4) = S at *
          simp -implicitDefEqProofs [ha, hc]
      exact ⟨1, .inr ⟨[], i, G, by rw [whileN_end htst]; simp [encs], ⟨by simp [barL], hi, fun _ => ⟨by simp only [Rps], by simp⟩, by simp [nums], by simp only [Rws]⟩, by simpa using hacc⟩⟩
termination_by k => k
decreasing_by all_goals omega
theorem whole_or (m : Nat) (T : Txt) (hTl : T.length ≤ 90000) (d N : Nat) (hN : N ≤ 16) (ho : BrOr (sem codes (m + 4)) T d N) : WoOr (sem codes (m + 5)) T (d + 1) N := by
  intro i G hi
  have hn2 : ¬ (2 : Int) * 8 < (N : Int) := by omega
  have hn3 : ¬ (16 : Int) < (N : Int) := by omega
  have hm : mulOk 2 8 := mulOk_l (by decide) (by decide)
  rcases ho i G hi with h1 | ⟨p, j1, G1, h1, ⟨q2, q3, q4, q5, q6⟩⟩
  · left
    rw [sem_c rfl]
    clear ho
    generalize hb : l_Reader_whole_1 (sem codes (m + 4)) (sem' codes (m + 4)) = b at *
    simp only [c_Reader_whole, hb]
    generalize sem codes (m + 4) = S at *
    generalize sem' codes (m + 4) = S' at *
    simp -implicitDefEqProofs [hm, hn2, hn3, h1]
  · obtain ⟨K, hw⟩ := branches_any m T hTl d N ho T.length j1 G1 [enc p] (by omega) q3 (by simp)
    clear ho
    rcases hw with ⟨r, e⟩ | ⟨ps, j, G', e, ⟨p1, p2, p3, p4, p5⟩, p6⟩
    · left
      have hw := sWhile_eq K e (by simp)
      rw [sem_c rfl]
      generalize (j1 : Int) = J at *
      generalize enc p = E at *
      generalize hb : l_Reader_whole_1 (sem codes (m + 4)) (sem' codes (m + 4)) = b at *
      simp only [c_Reader_whole, hb]
      generalize sem codes (m + 4) = S at *
      generalize sem' codes (m + 4) = S' at *
      simp -implicitDefEqProofs [hm, hn2, hn3, h1, hw]
    · right
      have hw := sWhile_eq K e (by simp)
      cases ps with
      | nil =>
        simp only [nums, Option.some.injEq] at p4
        subst p4
        simp only [barL, List.map_nil, List.sum_nil, Nat.add_zero] at p1 p3
        refine ⟨p, j, G1, ?_, ⟨by omega, p2, fun he => (q4 (by omega)).1, q5, q6.succ⟩⟩
        rw [sem_c rfl]
        rw [show [enc p] ++ encs [] = [enc p] from rfl] at hw
        generalize (j1 : Int) = J at *
        generalize (j : Int) = J2 at *
        generalize enc p = E at *
        generalize hb : l_Reader_whole_1 (sem codes (m + 4)) (sem' codes (m + 4)) = b at *
        simp only [c_Reader_whole, hb]
        generalize sem codes (m + 4) = S at *
        generalize sem' codes (m + 4) = S' at *
        simp -implicitDefEqProofs [hm, hn2, hn3, h1, hw]
      | cons q ps =>
        have hl : (wr (.alt (p :: q :: ps))).length = (wr p).length + barL (q :: ps) := alt_len (q :: ps) p
        simp only [List.length_cons, List.length_nil] at p6
        refine ⟨.alt (p :: q :: ps), j, G', ?_, ⟨by omega, p2, ?_, ?_, by simp only [Rw]; exact ⟨by simp, by simp; omega, by simp only [Rws]; exact ⟨q6, p5⟩⟩⟩⟩
        · rw [sem_c rfl]
          rw [show enc (.alt (p :: q :: ps)) = .tup [.str [111, 114], .tup ([enc p] ++ encs (q :: ps))] from rfl]
          have hlen : ([enc p] ++ encs (q :: ps)).length ≠ 1 := by simp [encs]
          have hf : Fits ([enc p] ++ encs (q :: ps)).length := fits_of (by simp [encs, encs_len]; omega)
          generalize [enc p] ++ encs (q :: ps) = E at *
          generalize (j1 : Int) = J at *
          generalize (j : Int) = J2 at *
          generalize enc p = E0 at *
          generalize hb : l_Reader_whole_1 (sem codes (m + 4)) (sem' codes (m + 4)) = b at *
          simp only [c_Reader_whole, hb]
          generalize sem codes (m + 4) = S at *
          generalize sem' codes (m + 4) = S' at *
          have hlen2 : ¬ (E.length : Int) = 1 := by omega
          simp -implicitDefEqProofs [hm, hn2, hn3, h1, hw, hlen, hlen2, hf]
        · intro he
          obtain ⟨a1, a2⟩ := q4 (by omega)
          obtain ⟨b1, b2⟩ := p3 (by omega)
          simp only [Rp]
          refine ⟨by simp only [Rps] at b1 ⊢; exact ⟨a1, b1⟩, ?_⟩
          intro x hx
          rcases List.mem_cons.mp hx with rfl | hx
          · exact a2
          · exact b2 x hx
        · show nums G (p :: q :: ps) = some G'
          rw [nums, q5]; exact p4
theorem whole_deep (m : Nat) (T : Txt) (d N : Nat) (hN : 16 < N) : WoOr (sem codes (m + 1)) T d N := by
  intro i G hi
  left
  have hn2 : (2 : Int) * 8 < (N : Int) := by omega
  have hn3 : (16 : Int) < (N : Int) := by omega
  have hm : mulOk 2 8 := mulOk_l (by decide) (by decide)
  rw [sem_c rfl]
  generalize hb : l_Reader_whole_1 (sem codes m) (sem' codes m) = b at *
  simp only [c_Reader_whole, hb]
  generalize sem codes m = S at *
  generalize sem' codes m = S' at *
  simp -implicitDefEqProofs [hm, hn2, hn3]
/-- the Reader at any text -/
theorem whole_at (T : Txt) (hT : ∀ c ∈ T, Sg c) (hTl : T.length ≤ 90000) : ∀ (k n N : Nat), N + k = 17 → WoOr (sem codes (n + 4 * k + 3)) T (4 * k) N
  | 0, n, N, h => whole_deep (n + 2) T 0 N (by omega)
  | k + 1, n, N, h => by
    have h4 := whole_at T hT hTl k (n + 1) (N + 1) (by omega)
    have h3 := whole_at T hT hTl k n (N + 1) (by omega)
    have ho : OneOr (sem codes (n + 4 * k + 5)) T (4 * k + 1) N := fun i G => one_or (n + 4 * k) T hT (by omega) (4 * k) N (by rw [show n + 4 * k + 4 = n + 1 + 4 * k + 3 by omega]; exact h4) h3 i G
    have hb := branch_or (n + 4 * k + 1) T (by omega) (4 * k + 1) N ho
    have hw := whole_or (n + 4 * k + 2) T hTl (4 * k + 1 + 2) N (by omega) hb
    rw [show n + 4 * (k + 1) + 3 = n + 4 * k + 2 + 5 by omega, show 4 * (k + 1) = 4 * k + 1 + 2 + 1 by omega]
    exact hw
end Ex
end HT

namespace HT
open Sk
namespace Rd
theorem parts_of_ok (n : Nat) (p : Pat) : sem codes (n + 1) i_parts_of [.d (enc p)] = .ok (.own (encs p.parts)) [.d (enc p)] := by
  rw [sem_c rfl]
  cases p with
  | look k p => cases k <;> simp [c_parts_of, enc, Look.t, encs, Pat.parts, inD, flatD, sameD]
  | runs o rs => cases o <;> simp [c_parts_of, enc, encs, Pat.parts, inD, flatD, sameD]
  | edge o => cases o <;> simp [c_parts_of, enc, encs, Pat.parts, inD, flatD, sameD]
  | _ => simp [c_parts_of, enc, encs, Pat.parts, inD, flatD, sameD]
end Rd
end HT

namespace HT
open Sk
namespace Rd
theorem groups_loop {f : FSem} {e : D} : ∀ (ps : List Pat) (acc : Int) (t : A), freeA t = true → (∀ p ∈ ps, f [.d (enc p)] = .ok (.d (.int p.ng)) [.d (enc p)]) →
    ∃ t', freeA t' = true ∧ forL 2 (sSet 1 (eOp opAdd (eVar 1) (eCall f (aCons (eVar 2) aNil)))) (encs ps) [.d e, .d (.int acc), t] = .nx [.d e, .d (.int (acc + ngs ps)), t']
  | [], acc, t, ht, _ => ⟨t, ht, by simp [encs, ngs]⟩
  | p :: ps, acc, t, ht, h => by
    obtain ⟨t', ht', e'⟩ := groups_loop ps (acc + p.ng) (.d (enc p)) rfl fun q hq => h q (List.mem_cons_of_mem _ hq)
    refine ⟨t', ht', ?_⟩
    have hp := h p List.mem_cons_self
    simp [encs, ngs, ht, hp] at e' ⊢
    rw [e', Int.add_assoc]
theorem ng_eq (p : Pat) : p.ng = (if p.w = [103, 114, 111, 117, 112] then 1 else 0) + ngs p.parts := by
  cases p with
  | look k p => cases k <;> simp [Pat.ng, ngs, Pat.parts, Pat.w, Look.t]
  | runs o rs => cases o <;> simp [Pat.ng, ngs, Pat.parts, Pat.w]
  | edge o => cases o <;> simp [Pat.ng, ngs, Pat.parts, Pat.w]
  | group k p => simp [Pat.ng, ngs, Pat.parts, Pat.w]; omega
  | _ => simp [Pat.ng, ngs, Pat.parts, Pat.w]
end Rd
end HT

namespace HT
open Sk
namespace Ex
open Rd
theorem Rws.mem {d : Nat} : ∀ {ps : List Pat} {q : Pat}, Rws d ps → q ∈ ps → Rw d q
  | [], _, _, h => by cases h
  | p :: ps, q, w, h => by
    simp only [Rws] at w
    rcases List.mem_cons.mp h with rfl | h
    · exact w.1
    · exact Rws.mem w.2 h
theorem Rw.parts : ∀ {d : Nat} {p : Pat}, Rw (d + 1) p → ∀ q ∈ p.parts, Rw d q
  | _, .row ps, h, q, hq => by simp only [Rw] at h; exact h.2.mem hq
  | _, .alt ps, h, q, hq => by simp only [Rw] at h; exact h.2.2.mem hq
  | _, .times _ _ _ p, h, q, hq => by simp only [Rw] at h; simp [Pat.parts] at hq; subst hq; exact h.2.2
  | _, .group _ p, h, q, hq => by simp only [Rw] at h; simp [Pat.parts] at hq; subst hq; exact h
  | _, .have_ _ a b, h, q, hq => by simp only [Rw] at h; simp [Pat.parts] at hq; rcases hq with rfl | rfl; exact h.2.1; exact h.2.2
  | _, .look _ p, h, q, hq => by simp only [Rw] at h; simp [Pat.parts] at hq; subst hq; exact h
  | _, .sign _, _, q, hq => by cases hq
  | _, .any, _, q, hq => by cases hq
  | _, .runs _ _, _, q, hq => by cases hq
  | _, .edge _, _, q, hq => by cases hq
  | _, .again _, _, q, hq => by cases hq
theorem Rw.parts0 : ∀ {p : Pat}, Rw 0 p → p.parts = []
  | .row ps, h => by simp only [Rw] at h; exact h.2
  | .alt ps, h => by simp [Rw] at h
  | .times _ _ _ p, h => by simp [Rw] at h
  | .group _ p, h => by simp [Rw] at h
  | .have_ _ a b, h => by simp [Rw] at h
  | .look _ p, h => by simp [Rw] at h
  | .sign _, _ => rfl
  | .any, _ => rfl
  | .runs _ _, _ => rfl
  | .edge _, _ => rfl
  | .again _, _ => rfl
theorem groups_in_any : ∀ (d n : Nat) (p : Pat), Rw d p → sem codes (n + d + 2) i_groups_in [.d (enc p)] = .ok (.d (.int p.ng)) [.d (enc p)]
  | d, n, p, wp => by
    rw [sem_c rfl]
    have hpo := parts_of_ok (n + d) p
    have ih : ∀ q ∈ p.parts, sem codes (n + d + 1) i_groups_in [.d (enc q)] = .ok (.d (.int q.ng)) [.d (enc q)] := by
      intro q hq
      match d, wp with
      | 0, wp => rw [wp.parts0] at hq; cases hq
      | d + 1, wp => exact groups_in_any d n q (wp.parts q hq)
    generalize sem codes (n + d + 1) = S at *
    generalize sem' codes (n + d + 1) = S' at *
    obtain ⟨l, el⟩ := enc_w p
    obtain ⟨t', ht', e⟩ := groups_loop (f := S i_groups_in) (e := enc p) p.parts (if p.w = [103, 114, 111, 117, 112] then 1 else 0) .un rfl ih
    have ge := ng_eq p
    rw [el] at hpo e ⊢
    by_cases hw : p.w = [103, 114, 111, 117, 112]
    · simp [hw] at ge e hpo
      simp [c_groups_in, l_groups_in_1, hpo, hw, e, ge]
    · simp [hw] at ge e hpo
      simp [c_groups_in, l_groups_in_1, hpo, hw, e, ge]
theorem look_parts_any (S S' : Nat → FSem) (W : Pat → Prop) (K deep : Nat) (x0 x3 x4 x5 : A) : ∀ (ps : List Pat) (many : Nat) (y : A), freeA y = true → (∀ q ∈ ps, S i_look_at [.d (enc q), .d (.int K), .d (.int ((deep : Int) + 1))] = .exc "Unread" ∨ (S i_look_at [.d (enc q), .d (.int K), .d (.int ((deep : Int) + 1))] = .ok (.d (.int q.nd)) [.d (enc q), .d (.int K), .d (.int ((deep : Int) + 1))] ∧ W q)) →
    (∃ r, forL 7 (l_look_at_2 S S') (encs ps) [x0, .d (.int K), .d (.int deep), x3, x4, x5, .d (.int many), y] = .ex "Unread" r) ∨ ((∃ y', forL 7 (l_look_at_2 S S') (encs ps) [x0, .d (.int K), .d (.int deep), x3, x4, x5, .d (.int many), y] = .nx [x0, .d (.int K), .d (.int deep), x3, x4, x5, .d (.int ((many + nds ps : Nat) : Int)), y']) ∧ ∀ q ∈ ps, W q)
  | [], many, y, hy, h => .inr ⟨⟨y, by simp [encs, nds]⟩, by simp⟩
  | q :: ps, many, y, hy, h => by
    rcases h q List.mem_cons_self with h1 | ⟨h1, w1⟩
    · left
      refine ⟨[x0, .d (.int K), .d (.int deep), x3, x4, x5, .d (.int many), .d (enc q)], ?_⟩
      rw [show encs (q :: ps) = enc q :: encs ps from rfl]
      generalize enc q = E at *
      exact forL_ex (by simpa using hy) (by simp) (by simp -implicitDefEqProofs [l_look_at_2, h1])
    · have ih := look_parts_any S S' W K deep x0 x3 x4 x5 ps (many + q.nd) (.d (enc q)) rfl fun x hx => h x (List.mem_cons_of_mem _ hx)
      have step : forL 7 (l_look_at_2 S S') (encs (q :: ps)) [x0, .d (.int K), .d (.int deep), x3, x4, x5, .d (.int many), y] = forL 7 (l_look_at_2 S S') (encs ps) [x0, .d (.int K), .d (.int deep), x3, x4, x5, .d (.int ((many + q.nd : Nat) : Int)), .d (enc q)] := by
        rw [show encs (q :: ps) = enc q :: encs ps from rfl]
        rw [show ((many + q.nd : Nat) : Int) = (many : Int) + (q.nd : Int) from rfl]
        clear ih
        generalize enc q = E at *
        generalize (q.nd : Int) = Q at *
        rw [forL_go (r1 := [x0, .d (.int K), .d (.int deep), x3, x4, x5, .d (.int ((many : Int) + Q)), .d E]) (by simpa using hy) (by simp) (by simp -implicitDefEqProofs [l_look_at_2, h1])]
      rw [step]
      rcases ih with ⟨r, e⟩ | ⟨⟨y', e⟩, w⟩
      · exact .inl ⟨r, e⟩
      · refine .inr ⟨⟨y', ?_⟩, ?_⟩
        · rw [show many + nds (q :: ps) = many + q.nd + nds ps by simp [nds]; omega]; exact e
        · intro x hx
          rcases List.mem_cons.mp hx with rfl | hx
          · exact w1
          · exact w x hx
theorem look_runs_any (S S' : Nat → FSem) (x0 x1 x2 x3 x4 x6 x7 : A) : ∀ (l : List (Nat × Nat)) (y : A), freeA y = true →
    (∃ r, forL 5 (l_look_at_1 S S') (l.map encR) [x0, x1, x2, x3, x4, y, x6, x7] = .ex "Unread" r) ∨ ((∃ y', freeA y' = true ∧ forL 5 (l_look_at_1 S S') (l.map encR) [x0, x1, x2, x3, x4, y, x6, x7] = .nx [x0, x1, x2, x3, x4, y', x6, x7]) ∧ ∀ r ∈ l, r.1 ≤ r.2)
  | [], y, hy => .inr ⟨⟨y, hy, by simp⟩, by simp⟩
  | r :: l, y, hy => by
    by_cases h1 : r.1 ≤ r.2
    · have h2 : ¬ (r.2 : Int) < (r.1 : Int) := by omega
      have step : forL 5 (l_look_at_1 S S') ((r :: l).map encR) [x0, x1, x2, x3, x4, y, x6, x7] = forL 5 (l_look_at_1 S S') (l.map encR) [x0, x1, x2, x3, x4, .d (encR r), x6, x7] := by
        rw [List.map_cons]
        rw [forL_go (r1 := [x0, x1, x2, x3, x4, .d (encR r), x6, x7]) (by simpa using hy) (by simp) (by
          rw [show encR r = .tup [.str [r.1], .str [r.2]] from rfl]
          simp -implicitDefEqProofs [l_look_at_1, h2])]
      rw [step]
      rcases look_runs_any S S' x0 x1 x2 x3 x4 x6 x7 l (.d (encR r)) rfl with ⟨s, e⟩ | ⟨⟨y', f, e⟩, w⟩
      · exact .inl ⟨s, e⟩
      · refine .inr ⟨⟨y', f, e⟩, ?_⟩
        intro x hx
        rcases List.mem_cons.mp hx with rfl | hx
        · exact h1
        · exact w x hx
    · left
      have h2 : (r.2 : Int) < (r.1 : Int) := by omega
      refine ⟨[x0, x1, x2, x3, x4, .d (encR r), x6, x7], ?_⟩
      rw [List.map_cons]
      exact forL_ex (by simpa using hy) (by simp) (by
        rw [show encR r = .tup [.str [r.1], .str [r.2]] from rfl]
        simp -implicitDefEqProofs [l_look_at_1, h2])
/-- what the Reader makes, its groups numbered -/
def Rx (p : Pat) : Prop := (∃ d, Rw d p) ∧ ∃ k m, num k p = some m ∧ m ≤ 9
theorem nums_mem : ∀ {ps : List Pat} {k m : Nat}, nums k ps = some m → ∀ q ∈ ps, ∃ k' m', num k' q = some m' ∧ m' ≤ m
  | [], _, _, _, q, hq => by cases hq
  | p :: ps, k, m, h, q, hq => by
    simp only [nums] at h
    cases e : num k p with
    | none => rw [e] at h; cases h
    | some j =>
      rw [e] at h
      have h : nums j ps = some m := h
      have hj := nums_ng h
      rcases List.mem_cons.mp hq with rfl | hq
      · exact ⟨k, j, e, by omega⟩
      · exact nums_mem h q hq
theorem num_parts : ∀ {p : Pat} {k m : Nat}, num k p = some m → ∀ q ∈ p.parts, ∃ k' m', num k' q = some m' ∧ m' ≤ m
  | .row ps, k, m, h, q, hq => by simp only [num] at h; exact nums_mem h q hq
  | .alt ps, k, m, h, q, hq => by simp only [num] at h; exact nums_mem h q hq
  | .times _ _ _ p, k, m, h, q, hq => by simp only [num] at h; simp [Pat.parts] at hq; subst hq; exact ⟨k, m, h, by omega⟩
  | .group n p, k, m, h, q, hq => by
    simp only [num] at h; simp [Pat.parts] at hq; subst hq
    split at h
    · exact ⟨_, m, h, by omega⟩
    · cases h
  | .have_ _ a b, k, m, h, q, hq => by
    have h : nums k [a, b] = some m := by
      simp only [num] at h; simp only [nums]
      cases e : num k a with
      | none => rw [e] at h; cases h
      | some j =>
        rw [e] at h
        have h : num j b = some m := h
        show (num j b).bind _ = _
        rw [h]; rfl
    exact nums_mem h q hq
  | .look _ p, k, m, h, q, hq => by simp only [num] at h; simp [Pat.parts] at hq; subst hq; exact ⟨k, m, h, by omega⟩
  | .sign _, _, _, _, q, hq => by cases hq
  | .any, _, _, _, q, hq => by cases hq
  | .runs _ _, _, _, _, q, hq => by cases hq
  | .edge _, _, _, _, q, hq => by cases hq
  | .again _, _, _, _, q, hq => by cases hq
theorem Rx.parts {p : Pat} (h : Rx p) : ∀ q ∈ p.parts, Rx q := by
  obtain ⟨⟨d, hd⟩, k, m, hn, hm⟩ := h
  intro q hq
  obtain ⟨k', m', h1, h2⟩ := num_parts hn q hq
  refine ⟨?_, k', m', h1, by omega⟩
  cases d with
  | zero => rw [hd.parts0] at hq; cases hq
  | succ d => exact ⟨d, hd.parts q hq⟩
theorem wfs_of {d : Nat} : ∀ {ps : List Pat}, (∀ q ∈ ps, Wf d q) → Wfs d ps
  | [], _ => by simp [Wfs]
  | p :: ps, h => by simp only [Wfs]; exact ⟨h p List.mem_cons_self, wfs_of fun q hq => h q (List.mem_cons_of_mem _ hq)⟩
theorem lks_of {K : Nat} : ∀ {ps : List Pat}, (∀ q ∈ ps, Lk K q) → Lks K ps
  | [], _ => by simp only [Lks]
  | p :: ps, h => by simp only [Lks]; exact ⟨h p List.mem_cons_self, lks_of fun q hq => h q (List.mem_cons_of_mem _ hq)⟩
/-- within the bounds, e levels -/
def In (K e : Nat) (p : Pat) : Prop := ∃ f, e = f + 1 ∧ Wf f p ∧ Lk K p ∧ p.nd ≤ 60
theorem look_any (K : Nat) (hK : K ≤ 9) : ∀ (e n : Nat) (p : Pat), Rx p → ∀ deep : Nat, deep + e = 9 → sem codes (n + e + 2) i_look_at [.d (enc p), .d (.int K), .d (.int deep)] = .exc "Unread" ∨ (sem codes (n + e + 2) i_look_at [.d (enc p), .d (.int K), .d (.int deep)] = .ok (.d (.int p.nd)) [.d (enc p), .d (.int K), .d (.int deep)] ∧ In K e p)
  | 0, n, p, hx, deep, hdp => by
    left
    rw [sem_c rfl]
    have hd8 : (8 : Int) < deep := by omega
    generalize enc p = E
    generalize sem codes (n + 0 + 1) = S at *
    generalize sem' codes (n + 0 + 1) = S' at *
    simp -implicitDefEqProofs [c_look_at, hd8]
  | e + 1, n, p, hx, deep, hdp => by
    rw [sem_c rfl]
    have hpo := parts_of_ok (n + e + 1) p
    have hnp := nd_parts p
    have hxp := hx.parts
    obtain ⟨⟨d, hw⟩, k0, m0, hnum, hm0⟩ := hx
    have ih : ∀ q ∈ p.parts, sem codes (n + e + 2) i_look_at [.d (enc q), .d (.int K), .d (.int ((deep : Int) + 1))] = .exc "Unread" ∨ (sem codes (n + e + 2) i_look_at [.d (enc q), .d (.int K), .d (.int ((deep : Int) + 1))] = .ok (.d (.int q.nd)) [.d (enc q), .d (.int K), .d (.int ((deep : Int) + 1))] ∧ In K e q) := fun q hq => look_any K hK e n q (hxp q hq) (deep + 1) (by omega)
    rw [show n + e + 1 + 1 = n + e + 2 from rfl] at hpo
    rw [show n + (e + 1) + 1 = n + e + 2 by omega]
    generalize sem codes (n + e + 2) = S at *
    generalize sem' codes (n + e + 2) = S' at *
    have hd8 : ¬ (8 : Int) < deep := by omega
    have hn1 : (1 + nds p.parts : Nat) = p.nd := by omega
    have LP := fun x0 x3 x4 x5 y hy => look_parts_any S S' (In K e) K deep x0 x3 x4 x5 p.parts 1 y hy ih
    have hle := encs_len p.parts
    cases p with
    | runs o l =>
      simp only [Rw] at hw
      simp only [Pat.parts, encs] at hpo
      by_cases w1 : (1 : Int) ≤ l.length
      · by_cases w2 : (l.length : Int) ≤ 8
        · have fl : Fit1 (l.map encR).length := by rw [List.length_map]; exact fit1_of (by omega)
          rw [List.length_map] at fl
          rcases look_runs_any S S' (.d (enc (.runs o l))) (.d (.int K)) (.d (.int deep)) (.d (.str (Pat.runs o l).w)) (.d (.lst [])) .un .un l .un rfl with ⟨r, e1⟩ | ⟨⟨y', fy, e1⟩, w3⟩
          · left
            cases o <;> simp -implicitDefEqProofs [Pat.w, enc] at e1 hpo <;> simp -implicitDefEqProofs [c_look_at, hpo, hd8, enc, inD, flatD, sameD, w1, w2, fl, e1, Pat.parts, nds]
          · right
            refine ⟨?_, e, rfl, by simp only [Wf]; exact ⟨by omega, by omega, fun r hr => ⟨(hw.2 r hr).1, (hw.2 r hr).2, w3 r hr⟩⟩, by simp only [Lk], by simp [Pat.nd]⟩
            rw [← hn1]
            cases o <;> simp -implicitDefEqProofs [Pat.w, enc] at e1 hpo <;> simp -implicitDefEqProofs [c_look_at, hpo, hd8, enc, inD, flatD, sameD, w1, w2, fl, e1, Pat.parts, nds]
        · left
          cases o <;> simp -implicitDefEqProofs [Pat.w, enc] at hpo <;> simp -implicitDefEqProofs [c_look_at, hpo, hd8, enc, inD, flatD, sameD, w1, w2, Pat.parts, nds]
      · left
        cases o <;> simp -implicitDefEqProofs [Pat.w, enc] at hpo <;> simp -implicitDefEqProofs [c_look_at, hpo, hd8, enc, inD, flatD, sameD, w1, Pat.parts, nds]
    | again k =>
      simp only [Rw] at hw
      simp only [Pat.parts, encs] at hpo
      simp -implicitDefEqProofs [enc] at hpo
      by_cases k1 : (1 : Int) ≤ k
      · by_cases k2 : (k : Int) ≤ K
        · right
          refine ⟨?_, e, rfl, by simp only [Wf]; omega, by simp only [Lk]; omega, by simp [Pat.nd]⟩
          rw [← hn1]
          simp -implicitDefEqProofs [c_look_at, hpo, hd8, enc, inD, flatD, sameD, k1, k2, Pat.parts, nds]
        · left
          simp -implicitDefEqProofs [c_look_at, hpo, hd8, enc, inD, flatD, sameD, k1, k2, Pat.parts, nds]
      · left
        simp -implicitDefEqProofs [c_look_at, hpo, hd8, enc, inD, flatD, sameD, k1, Pat.parts, nds]
    | edge o =>
      right
      refine ⟨?_, e, rfl, by simp only [Wf], by simp only [Lk], by simp [Pat.nd]⟩
      simp only [Pat.parts, encs] at hpo
      rw [← hn1]
      cases o <;> simp -implicitDefEqProofs [enc] at hpo <;> simp -implicitDefEqProofs [c_look_at, hpo, hd8, enc, inD, flatD, sameD, Pat.parts, nds]
    | sign c =>
      right
      simp only [Rw] at hw
      refine ⟨?_, e, rfl, by simp only [Wf]; exact hw, by simp only [Lk], by simp [Pat.nd]⟩
      simp only [Pat.parts, encs] at hpo
      rw [← hn1]
      simp -implicitDefEqProofs [enc] at hpo
      simp -implicitDefEqProofs [c_look_at, hpo, hd8, enc, inD, flatD, sameD, Pat.parts, nds]
    | any =>
      right
      refine ⟨?_, e, rfl, by simp only [Wf], by simp only [Lk], by simp [Pat.nd]⟩
      simp only [Pat.parts, encs] at hpo
      rw [← hn1]
      simp -implicitDefEqProofs [enc] at hpo
      simp -implicitDefEqProofs [c_look_at, hpo, hd8, enc, inD, flatD, sameD, Pat.parts, nds]
    | row ps =>
      rcases LP (.d (enc (Pat.row ps))) (.d (.str (Pat.row ps).w)) (.d (.lst (encs (Pat.row ps).parts))) .un .un rfl with ⟨r, e1⟩ | ⟨⟨y', e1⟩, w⟩
      · by_cases h8 : (8 : Int) < ((Pat.row ps).parts.length : Int)
        · left
          generalize encs (Pat.row ps).parts = E at *
          simp -implicitDefEqProofs [enc, Pat.w] at hpo e1
          simp -implicitDefEqProofs [c_look_at, hpo, hd8, enc, inD, flatD, sameD, hle, h8]
        · have hfit : Fit1 (encs (Pat.row ps).parts).length := by rw [encs_len]; exact fit1_of (by omega)
          left
          generalize encs (Pat.row ps).parts = E at *
          simp -implicitDefEqProofs [enc, Pat.w] at hpo e1
          simp -implicitDefEqProofs [c_look_at, hpo, hd8, enc, inD, flatD, sameD, hle, h8, hfit, e1]
      · by_cases h8 : (8 : Int) < ((Pat.row ps).parts.length : Int)
        · left
          generalize encs (Pat.row ps).parts = E at *
          simp -implicitDefEqProofs [enc, Pat.w] at hpo e1
          simp -implicitDefEqProofs [c_look_at, hpo, hd8, enc, inD, flatD, sameD, hle, h8]
        · have hfit : Fit1 (encs (Pat.row ps).parts).length := by rw [encs_len]; exact fit1_of (by omega)
          by_cases h60 : (60 : Int) < 1 + (nds (Pat.row ps).parts : Int)
          · left
            generalize encs (Pat.row ps).parts = E at *
            simp -implicitDefEqProofs [enc, Pat.w] at hpo e1
            simp -implicitDefEqProofs [c_look_at, hpo, hd8, enc, inD, flatD, sameD, hle, h8, hfit, e1, h60]
          · right
            refine ⟨?_, e, rfl, ?_, ?_, by omega⟩
            · rw [← hn1]
              generalize encs (Pat.row ps).parts = E at *
              simp -implicitDefEqProofs [enc, Pat.w] at hpo e1
              simp -implicitDefEqProofs [c_look_at, hpo, hd8, enc, inD, flatD, sameD, hle, h8, hfit, e1, h60]
            · simp only [Wf]
              simp only [Pat.parts] at h8 w
              refine ⟨by omega, ?_⟩
              cases e with
              | zero =>
                cases ps with
                | nil => rfl
                | cons q ps => obtain ⟨f, hf, _⟩ := w q List.mem_cons_self; cases hf
              | succ e => exact wfs_of fun q hq => by obtain ⟨f, hf, wf, _⟩ := w q hq; cases hf; exact wf
            · simp only [Lk]
              simp only [Pat.parts] at h8 w
              exact ⟨by omega, lks_of fun q hq => by obtain ⟨f, hf, _, wl, _⟩ := w q hq; exact wl⟩
    | alt ps =>
      rcases LP (.d (enc (Pat.alt ps))) (.d (.str (Pat.alt ps).w)) (.d (.lst (encs (Pat.alt ps).parts))) .un .un rfl with ⟨r, e1⟩ | ⟨⟨y', e1⟩, w⟩
      · by_cases h8 : (8 : Int) < ((Pat.alt ps).parts.length : Int)
        · left
          generalize encs (Pat.alt ps).parts = E at *
          simp -implicitDefEqProofs [enc, Pat.w] at hpo e1
          simp -implicitDefEqProofs [c_look_at, hpo, hd8, enc, inD, flatD, sameD, hle, h8]
        · have hfit : Fit1 (encs (Pat.alt ps).parts).length := by rw [encs_len]; exact fit1_of (by omega)
          left
          generalize encs (Pat.alt ps).parts = E at *
          simp -implicitDefEqProofs [enc, Pat.w] at hpo e1
          simp -implicitDefEqProofs [c_look_at, hpo, hd8, enc, inD, flatD, sameD, hle, h8, hfit, e1]
      · by_cases h8 : (8 : Int) < ((Pat.alt ps).parts.length : Int)
        · left
          generalize encs (Pat.alt ps).parts = E at *
          simp -implicitDefEqProofs [enc, Pat.w] at hpo e1
          simp -implicitDefEqProofs [c_look_at, hpo, hd8, enc, inD, flatD, sameD, hle, h8]
        · have hfit : Fit1 (encs (Pat.alt ps).parts).length := by rw [encs_len]; exact fit1_of (by omega)
          by_cases h60 : (60 : Int) < 1 + (nds (Pat.alt ps).parts : Int)
          · left
            generalize encs (Pat.alt ps).parts = E at *
            simp -implicitDefEqProofs [enc, Pat.w] at hpo e1
            simp -implicitDefEqProofs [c_look_at, hpo, hd8, enc, inD, flatD, sameD, hle, h8, hfit, e1, h60]
          · right
            refine ⟨?_, e, rfl, ?_, ?_, by omega⟩
            · rw [← hn1]
              generalize encs (Pat.alt ps).parts = E at *
              simp -implicitDefEqProofs [enc, Pat.w] at hpo e1
              simp -implicitDefEqProofs [c_look_at, hpo, hd8, enc, inD, flatD, sameD, hle, h8, hfit, e1, h60]
            · simp only [Rw] at hw
              simp only [Wf]
              simp only [Pat.parts] at h8 w
              refine ⟨hw.1, by omega, ?_⟩
              cases e with
              | zero =>
                cases ps with
                | nil => simp at hw
                | cons q ps => obtain ⟨f, hf, _⟩ := w q List.mem_cons_self; cases hf
              | succ e => exact wfs_of fun q hq => by obtain ⟨f, hf, wf, _⟩ := w q hq; cases hf; exact wf
            · simp only [Lk]
              simp only [Pat.parts] at h8 w
              exact ⟨by omega, lks_of fun q hq => by obtain ⟨f, hf, _, wl, _⟩ := w q hq; exact wl⟩
    | times lo hi how q =>
      rcases LP (.d (enc (Pat.times lo hi how q))) (.d (.str (Pat.times lo hi how q).w)) (.d (.lst (encs (Pat.times lo hi how q).parts))) .un .un rfl with ⟨r, e1⟩ | ⟨⟨y', e1⟩, w⟩
      · have h8 : ¬ (8 : Int) < ((Pat.times lo hi how q).parts.length : Int) := by simp [Pat.parts]
        have hfit : Fit1 (encs (Pat.times lo hi how q).parts).length := by rw [encs_len]; exact fit1_of (by omega)
        left
        generalize encs (Pat.times lo hi how q).parts = E at *
        simp -implicitDefEqProofs [enc, Pat.w] at hpo e1
        simp -implicitDefEqProofs [c_look_at, hpo, hd8, enc, inD, flatD, sameD, hle, h8, hfit, e1]
      · have h8 : ¬ (8 : Int) < ((Pat.times lo hi how q).parts.length : Int) := by simp [Pat.parts]
        have hfit : Fit1 (encs (Pat.times lo hi how q).parts).length := by rw [encs_len]; exact fit1_of (by omega)
        by_cases h60 : (60 : Int) < 1 + (nds (Pat.times lo hi how q).parts : Int)
        · left
          generalize encs (Pat.times lo hi how q).parts = E at *
          simp -implicitDefEqProofs [enc, Pat.w] at hpo e1
          simp -implicitDefEqProofs [c_look_at, hpo, hd8, enc, inD, flatD, sameD, hle, h8, hfit, e1, h60]
        · right
          refine ⟨?_, e, rfl, ?_, ?_, by omega⟩
          · rw [← hn1]
            generalize encs (Pat.times lo hi how q).parts = E at *
            simp -implicitDefEqProofs [enc, Pat.w] at hpo e1
            simp -implicitDefEqProofs [c_look_at, hpo, hd8, enc, inD, flatD, sameD, hle, h8, hfit, e1, h60]
          · obtain ⟨f, rfl, wf, wl, wn⟩ := w q (by simp [Pat.parts])
            simp only [Wf]
            cases d with
            | zero => simp [Rw] at hw
            | succ d =>
              simp only [Rw] at hw
              refine ⟨hw.1, ?_, wf⟩
              intro h eh
              subst eh
              exact hw.2.1
          · obtain ⟨f, rfl, wf, wl, wn⟩ := w q (by simp [Pat.parts])
            simp only [Lk]
            exact wl
    | group k q =>
      rcases LP (.d (enc (Pat.group k q))) (.d (.str (Pat.group k q).w)) (.d (.lst (encs (Pat.group k q).parts))) .un .un rfl with ⟨r, e1⟩ | ⟨⟨y', e1⟩, w⟩
      · have h8 : ¬ (8 : Int) < ((Pat.group k q).parts.length : Int) := by simp [Pat.parts]
        have hfit : Fit1 (encs (Pat.group k q).parts).length := by rw [encs_len]; exact fit1_of (by omega)
        left
        generalize encs (Pat.group k q).parts = E at *
        simp -implicitDefEqProofs [enc, Pat.w] at hpo e1
        simp -implicitDefEqProofs [c_look_at, hpo, hd8, enc, inD, flatD, sameD, hle, h8, hfit, e1]
      · have h8 : ¬ (8 : Int) < ((Pat.group k q).parts.length : Int) := by simp [Pat.parts]
        have hfit : Fit1 (encs (Pat.group k q).parts).length := by rw [encs_len]; exact fit1_of (by omega)
        by_cases h60 : (60 : Int) < 1 + (nds (Pat.group k q).parts : Int)
        · left
          generalize encs (Pat.group k q).parts = E at *
          simp -implicitDefEqProofs [enc, Pat.w] at hpo e1
          simp -implicitDefEqProofs [c_look_at, hpo, hd8, enc, inD, flatD, sameD, hle, h8, hfit, e1, h60]
        · right
          refine ⟨?_, e, rfl, ?_, ?_, by omega⟩
          · rw [← hn1]
            generalize encs (Pat.group k q).parts = E at *
            simp -implicitDefEqProofs [enc, Pat.w] at hpo e1
            simp -implicitDefEqProofs [c_look_at, hpo, hd8, enc, inD, flatD, sameD, hle, h8, hfit, e1, h60]
          · obtain ⟨f, rfl, wf, wl, wn⟩ := w q (by simp [Pat.parts])
            simp only [Wf]
            simp only [num] at hnum
            split at hnum
            · have := num_ng hnum
              exact ⟨by omega, by omega, wf⟩
            · cases hnum
          · obtain ⟨f, rfl, wf, wl, wn⟩ := w q (by simp [Pat.parts])
            simp only [Lk]
            exact wl
    | look k q =>
      rcases LP (.d (enc (Pat.look k q))) (.d (.str (Pat.look k q).w)) (.d (.lst (encs (Pat.look k q).parts))) .un .un rfl with ⟨r, e1⟩ | ⟨⟨y', e1⟩, w⟩
      · have h8 : ¬ (8 : Int) < ((Pat.look k q).parts.length : Int) := by simp [Pat.parts]
        have hfit : Fit1 (encs (Pat.look k q).parts).length := by rw [encs_len]; exact fit1_of (by omega)
        left
        generalize encs (Pat.look k q).parts = E at *
        cases k <;> simp -implicitDefEqProofs [enc, Pat.w, Look.t] at hpo e1 <;> simp -implicitDefEqProofs [c_look_at, hpo, hd8, enc, inD, flatD, sameD, Look.t, hle, h8, hfit, e1]
      · have h8 : ¬ (8 : Int) < ((Pat.look k q).parts.length : Int) := by simp [Pat.parts]
        have hfit : Fit1 (encs (Pat.look k q).parts).length := by rw [encs_len]; exact fit1_of (by omega)
        by_cases h60 : (60 : Int) < 1 + (nds (Pat.look k q).parts : Int)
        · left
          generalize encs (Pat.look k q).parts = E at *
          cases k <;> simp -implicitDefEqProofs [enc, Pat.w, Look.t] at hpo e1 <;> simp -implicitDefEqProofs [c_look_at, hpo, hd8, enc, inD, flatD, sameD, Look.t, hle, h8, hfit, e1, h60]
        · right
          refine ⟨?_, e, rfl, ?_, ?_, by omega⟩
          · rw [← hn1]
            generalize encs (Pat.look k q).parts = E at *
            cases k <;> simp -implicitDefEqProofs [enc, Pat.w, Look.t] at hpo e1 <;> simp -implicitDefEqProofs [c_look_at, hpo, hd8, enc, inD, flatD, sameD, Look.t, hle, h8, hfit, e1, h60]
          · obtain ⟨f, rfl, wf, wl, wn⟩ := w q (by simp [Pat.parts])
            simp only [Wf]
            exact wf
          · obtain ⟨f, rfl, wf, wl, wn⟩ := w q (by simp [Pat.parts])
            simp only [Lk]
            exact wl
    | have_ k a q =>
      have hk9 : k ≤ 9 := by
        cases d with
        | zero => simp [Rw] at hw
        | succ d => simp only [Rw] at hw; exact hw.1
      by_cases k1 : (1 : Int) ≤ k
      case neg =>
        left
        clear LP
        generalize encs (Pat.have_ k a q).parts = E at *
        simp -implicitDefEqProofs [enc, Pat.w] at hpo
        have h8 : ¬ (8 : Int) < ((Pat.have_ k a q).parts.length : Int) := by simp [Pat.parts]
        have hfit : Fit1 E.length := by rw [hle]; exact fit1_of (by omega)
        simp -implicitDefEqProofs [c_look_at, hpo, hd8, enc, inD, flatD, sameD, hle, h8, hfit, k1]
      by_cases k2 : (k : Int) ≤ K
      case neg =>
        left
        clear LP
        generalize encs (Pat.have_ k a q).parts = E at *
        simp -implicitDefEqProofs [enc, Pat.w] at hpo
        have h8 : ¬ (8 : Int) < ((Pat.have_ k a q).parts.length : Int) := by simp [Pat.parts]
        have hfit : Fit1 E.length := by rw [hle]; exact fit1_of (by omega)
        simp -implicitDefEqProofs [c_look_at, hpo, hd8, enc, inD, flatD, sameD, hle, h8, hfit, k1, k2]
      rcases LP (.d (enc (Pat.have_ k a q))) (.d (.str (Pat.have_ k a q).w)) (.d (.lst (encs (Pat.have_ k a q).parts))) .un .un rfl with ⟨r, e1⟩ | ⟨⟨y', e1⟩, w⟩
      · have h8 : ¬ (8 : Int) < ((Pat.have_ k a q).parts.length : Int) := by simp [Pat.parts]
        have hfit : Fit1 (encs (Pat.have_ k a q).parts).length := by rw [encs_len]; exact fit1_of (by omega)
        left
        generalize encs (Pat.have_ k a q).parts = E at *
        simp -implicitDefEqProofs [enc, Pat.w] at hpo e1
        simp -implicitDefEqProofs [c_look_at, hpo, hd8, enc, inD, flatD, sameD, k1, k2, hle, h8, hfit, e1]
      · have h8 : ¬ (8 : Int) < ((Pat.have_ k a q).parts.length : Int) := by simp [Pat.parts]
        have hfit : Fit1 (encs (Pat.have_ k a q).parts).length := by rw [encs_len]; exact fit1_of (by omega)
        by_cases h60 : (60 : Int) < 1 + (nds (Pat.have_ k a q).parts : Int)
        · left
          generalize encs (Pat.have_ k a q).parts = E at *
          simp -implicitDefEqProofs [enc, Pat.w] at hpo e1
          simp -implicitDefEqProofs [c_look_at, hpo, hd8, enc, inD, flatD, sameD, k1, k2, hle, h8, hfit, e1, h60]
        · right
          refine ⟨?_, e, rfl, ?_, ?_, by omega⟩
          · rw [← hn1]
            generalize encs (Pat.have_ k a q).parts = E at *
            simp -implicitDefEqProofs [enc, Pat.w] at hpo e1
            simp -implicitDefEqProofs [c_look_at, hpo, hd8, enc, inD, flatD, sameD, k1, k2, hle, h8, hfit, e1, h60]
          · obtain ⟨f, rfl, wf, wl, wn⟩ := w q (by simp [Pat.parts])
            obtain ⟨f2, e2, wf2, wl2, wn2⟩ := w a (by simp [Pat.parts])
            cases e2
            simp only [Wf]
            exact ⟨by omega, hk9, wf2, wf⟩
          · obtain ⟨f, rfl, wf, wl, wn⟩ := w q (by simp [Pat.parts])
            obtain ⟨f2, e2, wf2, wl2, wn2⟩ := w a (by simp [Pat.parts])
            simp only [Lk]
            exact ⟨by omega, wl2, wl⟩
end Ex
end HT

namespace HT
open Sk
theorem str1 {k : Nat} (h : k ≤ 9) : opStr (.int k) = some (.str [48 + k]) := by
  simp only [opStr]
  rw [if_pos ⟨by omega, by omega⟩]
  simp
theorem sign_text_ok (n : Nat) (c : Nat) (sp : Txt) : sem codes (n + 1) i_sign_text [.d (.str [c]), .d (.str sp)] = .ok (.d (.str (sgn sp c))) [.d (.str [c]), .d (.str sp)] := by
  rw [sem_c rfl]
  generalize sem codes n = S
  generalize sem' codes n = S'
  have hf : Fits 2 := fits_of (by omega)
  by_cases h : c ∈ sp <;> simp -implicitDefEqProofs [c_sign_text, sgn, h]
theorem runs_loop (S S' : Nat → FSem) (hs : ∀ (c : Nat) (sp : Txt), S i_sign_text [.d (.str [c]), .d (.str sp)] = .ok (.d (.str (sgn sp c))) [.d (.str [c]), .d (.str sp)]) (X : A) :
    ∀ (rs : List (Nat × Nat)) (f : Txt) (t : A), f.length + 5 * rs.length ≤ 900000 → freeA t = true → ∃ t', forL 2 (l_runs_text_1 S S') (rs.map encR) [X, .d (.str f), t] = .nx [X, .d (.str (f ++ (rs.map rn).flatten)), t']
  | [], f, t, _, ht => ⟨t, by simp⟩
  | r :: rs, f, t, hz, ht => by
    have h1 := rn_le r
    obtain ⟨t', ih⟩ := runs_loop S S' hs X rs (f ++ rn r) (.d (encR r)) (by simp at hz ⊢; omega) rfl
    refine ⟨t', ?_⟩
    rw [List.map_cons, forL_go (r1 := [X, .d (.str (f ++ rn r)), .d (encR r)]) (by simpa using ht) (by simp), ih]
    · simp
    · obtain ⟨x, y⟩ := r
      have s1 := hs x within
      have s2 := hs y within
      have l1 := sgn_le within x
      have l2 := sgn_le within y
      have f1 : Fits (f.length + (sgn within x).length) := fits_of (by simp at hz; omega)
      have f2 : Fits (f.length + (sgn within x).length + 1) := fits_of (by simp at hz; omega)
      have f3 : Fits (f.length + (sgn within x).length + 1 + (sgn within y).length) := fits_of (by simp at hz; omega)
      have f4 : Fits (f.length + ((sgn within x).length + 1) + (sgn within y).length) := fits_of (by simp at hz; omega)
      unfold within at s1 s2
      by_cases hxy : x = y
      · subst hxy
        simp -implicitDefEqProofs [l_runs_text_1, encR, rn, s1, within] at f1 ⊢
        simp -implicitDefEqProofs [f1]
      · simp only [rn, if_neg hxy]
        simp -implicitDefEqProofs [within] at f1 f2 f3 f4
        simp -implicitDefEqProofs [l_runs_text_1, encR, s1, s2, hxy, within, f1, f2, f3, f4]
theorem runs_text_ok (n : Nat) (rs : List (Nat × Nat)) (h : rs.length ≤ 1000) : sem codes (n + 2) i_runs_text [.d (.tup (rs.map encR))] = .ok (.d (.str (rs.map rn).flatten)) [.d (.tup (rs.map encR))] := by
  rw [sem_c rfl]
  have hs := sign_text_ok n
  generalize sem codes (n + 1) = S at *
  generalize sem' codes (n + 1) = S' at *
  obtain ⟨t', h1⟩ := runs_loop S S' hs (.d (.tup (rs.map encR))) rs [] .un (by simp; omega) rfl
  simp only [List.nil_append] at h1
  simp -implicitDefEqProofs [c_runs_text, h1]
/-- pattern_text at the level N -/
def PtOk (N d : Nat) : Prop := ∀ (p : Pat), Wf d p → p.nd ≤ 100 → sem codes N i_pattern_text [.d (enc p)] = .ok (.d (.str (wr p))) [.d (enc p)]
end HT

namespace HT
open Sk
theorem times_text_ok {N d : Nat} (hd : PtOk N d) (lo : Nat) (hi : Option Nat) (how : How) (p : Pat) (hw : Wf d p) (hlo : lo ≤ 9) (hhi : ∀ h, hi = some h → h ≤ 9) (hn : p.nd ≤ 99) :
    sem codes (N + 1) i_times_text [.d (enc (.times lo hi how p))] = .ok (.d (.str (wr (.times lo hi how p)))) [.d (enc (.times lo hi how p))] := by
  rw [sem_c rfl]
  unfold PtOk at hd
  generalize sem codes N = S at *
  generalize sem' codes N = S' at *
  have h1 := hd p hw (by omega)
  have hl := wr_le hw
  have hwl := wrap_le p.isCmp (wr p)
  have hslo := str1 hlo
  have hshi : ∀ h, hi = some h → opStr (.int h) = some (.str [48 + h]) := fun h e => str1 (hhi h e)
  obtain ⟨l, el⟩ := enc_w p
  have hcmp : inD (.str p.w) (.tup [.str [114, 111, 119], .str [111, 114], .str [116, 105, 109, 101, 115]]) = some p.isCmp := by
    cases p with
    | look k p => cases k <;> rfl
    | runs o rs => cases o <;> rfl
    | edge o => cases o <;> rfl
    | _ => rfl
  have hlo' : (lo : Int) < 10 := by omega
  have hhi' : ∀ h, hi = some h → (h : Int) < 10 := fun h e => by have := hhi h e; omega
  have fin : wr (.times lo hi how p) = wrapT p.isCmp (wr p) ++ 123 :: (48 + lo) :: 44 :: (hiT hi ++ (how.m ++ [125])) := rfl
  rw [fin]
  have e1 : enc (.times lo hi how p) = .tup [.str [116, 105, 109, 101, 115], .int lo, encH hi, .str how.t, enc p] := rfl
  rw [e1]
  rw [el] at h1 ⊢
  generalize hww : p.w = w at *
  have hlp : (wr p).length ≤ 9900 := by omega
  clear hwl hl
  cases hc : p.isCmp with
  | true =>
    rw [hc] at hcmp
    generalize wr p = wp at *
    simp only [wrapT, if_true] at *
    cases hi with
    | none => cases how <;> simp -implicitDefEqProofs (disch := omega) [c_times_text, h1, hcmp, encH, How.t, How.m, hiT, hlo', fits_s, List.lookup]
    | some h => have := hhi' h rfl; cases how <;> simp -implicitDefEqProofs (disch := omega) [c_times_text, h1, hcmp, encH, How.t, How.m, hiT, hlo', this, fits_s, List.lookup]
  | false =>
    rw [hc] at hcmp
    generalize wr p = wp at *
    simp only [wrapT, if_false, Bool.false_eq_true] at *
    cases hi with
    | none => cases how <;> simp -implicitDefEqProofs (disch := omega) [c_times_text, h1, hcmp, encH, How.t, How.m, hiT, hlo', fits_s, List.lookup]
    | some h => have := hhi' h rfl; cases how <;> simp -implicitDefEqProofs (disch := omega) [c_times_text, h1, hcmp, encH, How.t, How.m, hiT, hlo', this, fits_s, List.lookup]
end HT

namespace HT
open Sk
theorem row_loop {N d : Nat} (S S' : Nat → FSem) (hd : ∀ (p : Pat), Wf d p → p.nd ≤ 100 → S i_pattern_text [.d (enc p)] = .ok (.d (.str (wr p))) [.d (enc p)]) (X : A) :
    ∀ (ps : List Pat) (f : Txt) (t u : A), Wfs d ps → nds ps ≤ 100 → f.length + 100 * nds ps ≤ 900000 → freeA t = true → freeA u = true → ∃ t' u', forL 2 (l_row_text_1 S S') (encs ps) [X, .d (.str f), t, u] = .nx [X, .d (.str (f ++ (wrI ps).flatten)), t', u']
  | [], f, t, u, _, _, _, ht, _ => ⟨t, u, by simp -implicitDefEqProofs [encs, wrI]⟩
  | p :: ps, f, t, u, hw, hn, hz, ht, hu => by
    simp only [Wfs] at hw
    simp only [nds] at hn hz
    have h1 := hd p hw.1 (by omega)
    have hl := wr_le hw.1
    have hwl := wrap_le p.isAlt (wr p)
    obtain ⟨t', u', ih⟩ := row_loop (N := N) S S' hd X ps (f ++ wrapT p.isAlt (wr p)) (.d (enc p)) (.d (.str (wrapT p.isAlt (wr p)))) hw.2 (by omega) (by rw [List.length_append]; omega) rfl rfl
    refine ⟨t', u', ?_⟩
    rw [show encs (p :: ps) = enc p :: encs ps from rfl, forL_go (r1 := [X, .d (.str (f ++ wrapT p.isAlt (wr p))), .d (enc p), .d (.str (wrapT p.isAlt (wr p)))]) (by simpa using ht) (by simp), ih]
    · simp -implicitDefEqProofs [wrI]
    · obtain ⟨l, el⟩ := enc_w p
      have halt : decide (p.w = [111, 114]) = p.isAlt := by
        cases p with
        | look k p => cases k <;> rfl
        | runs o rs => cases o <;> rfl
        | edge o => cases o <;> rfl
        | _ => rfl
      rw [el] at h1 ⊢
      generalize p.w = w at *
      have hlp : (wr p).length ≤ 9996 := by omega
      have hfl : f.length ≤ 900000 := by omega
      clear hl hwl ih
      generalize wr p = wp at *
      cases hc : p.isAlt with
      | true =>
        rw [hc] at halt
        have hw' : w = [111, 114] := of_decide_eq_true halt
        subst hw'
        simp only [wrapT, if_true]
        simp -implicitDefEqProofs (disch := omega) [l_row_text_1, h1, hu, fits_s]
      | false =>
        rw [hc] at halt
        have hw' := of_decide_eq_false halt
        simp only [wrapT, Bool.false_eq_true, if_false]
        simp -implicitDefEqProofs (disch := omega) [l_row_text_1, h1, hu, hw', fits_s]
theorem row_text_ok {N d : Nat} (hd : PtOk N d) (ps : List Pat) (hw : Wfs d ps) (hn : nds ps ≤ 99) :
    sem codes (N + 1) i_row_text [.d (.tup (encs ps))] = .ok (.d (.str (wrI ps).flatten)) [.d (.tup (encs ps))] := by
  rw [sem_c rfl]
  unfold PtOk at hd
  generalize sem codes N = S at *
  generalize sem' codes N = S' at *
  obtain ⟨t', u', h1⟩ := row_loop (N := N) S S' hd (.d (.tup (encs ps))) ps [] .un .un hw (by omega) (by simp; omega) rfl rfl
  simp only [List.nil_append] at h1
  simp -implicitDefEqProofs [c_row_text, h1]
end HT

namespace HT
open Sk
section
variable (S S' : Nat → FSem)
theorem pt_sign (c : Nat) (h1 : S i_sign_text [.d (.str [c]), .d (.str special)] = .ok (.d (.str (sgn special c))) [.d (.str [c]), .d (.str special)]) : runF 1 3 (c_pattern_text S S') [.d (enc (.sign c))] = .ok (.d (.str (wr (.sign c)))) [.d (enc (.sign c))] := by
  unfold special at h1
  simp -implicitDefEqProofs [c_pattern_text, enc, wr, h1, special]
theorem pt_any : runF 1 3 (c_pattern_text S S') [.d (enc .any)] = .ok (.d (.str (wr .any))) [.d (enc .any)] := by simp -implicitDefEqProofs [c_pattern_text, enc, wr]
theorem pt_edge (o : Bool) : runF 1 3 (c_pattern_text S S') [.d (enc (.edge o))] = .ok (.d (.str (wr (.edge o)))) [.d (enc (.edge o))] := by cases o <;> simp -implicitDefEqProofs [c_pattern_text, enc, wr]
theorem pt_again (k : Nat) (h : k ≤ 9) : runF 1 3 (c_pattern_text S S') [.d (enc (.again k))] = .ok (.d (.str (wr (.again k)))) [.d (enc (.again k))] := by
  have h1 : (k : Int) < 10 := by omega
  have f : Fits 2 := fits_of (by omega)
  simp -implicitDefEqProofs [c_pattern_text, enc, wr, h1]
theorem pt_runs (o : Bool) (E : List D) (R : Txt) (h2 : R.length ≤ 1000) (h1 : S i_runs_text [.d (.tup E)] = .ok (.d (.str R)) [.d (.tup E)]) : runF 1 3 (c_pattern_text S S') [.d (.tup [.str (if o then [111, 117, 116] else [105, 110]), .tup E])] = .ok (.d (.str ((if o then [91, 94] else [91]) ++ (R ++ [93])))) [.d (.tup [.str (if o then [111, 117, 116] else [105, 110]), .tup E])] := by
  cases o <;> simp -implicitDefEqProofs (disch := omega) [c_pattern_text, h1, fits_s]
theorem pt_row (E : List D) (R : Txt) (h1 : S i_row_text [.d (.tup E)] = .ok (.d (.str R)) [.d (.tup E)]) : runF 1 3 (c_pattern_text S S') [.d (.tup [.str [114, 111, 119], .tup E])] = .ok (.d (.str R)) [.d (.tup [.str [114, 111, 119], .tup E])] := by
  simp -implicitDefEqProofs [c_pattern_text, h1]
theorem pt_times (E : List D) (R : Txt) (h1 : S i_times_text [.d (.tup (.str [116, 105, 109, 101, 115] :: E))] = .ok (.d (.str R)) [.d (.tup (.str [116, 105, 109, 101, 115] :: E))]) : runF 1 3 (c_pattern_text S S') [.d (.tup (.str [116, 105, 109, 101, 115] :: E))] = .ok (.d (.str R)) [.d (.tup (.str [116, 105, 109, 101, 115] :: E))] := by
  simp -implicitDefEqProofs [c_pattern_text, h1]
theorem pt_group (k : Int) (E : D) (R : Txt) (h2 : R.length ≤ 9996) (h1 : S i_pattern_text [.d E] = .ok (.d (.str R)) [.d E]) : runF 1 3 (c_pattern_text S S') [.d (.tup [.str [103, 114, 111, 117, 112], .int k, E])] = .ok (.d (.str (40 :: (R ++ [41])))) [.d (.tup [.str [103, 114, 111, 117, 112], .int k, E])] := by
  simp -implicitDefEqProofs (disch := omega) [c_pattern_text, h1, fits_s]
theorem pt_have (k : Nat) (hk : k ≤ 9) (E E' : D) (R R' : Txt) (h2 : R.length ≤ 9996) (h2' : R'.length ≤ 9996) (h1 : S i_pattern_text [.d E] = .ok (.d (.str R)) [.d E]) (h1' : S i_pattern_text [.d E'] = .ok (.d (.str R')) [.d E']) :
    runF 1 3 (c_pattern_text S S') [.d (.tup [.str [104, 97, 118, 101], .int k, E, E'])] = .ok (.d (.str (60 :: (48 + k) :: (R ++ 126 :: (R' ++ [62]))))) [.d (.tup [.str [104, 97, 118, 101], .int k, E, E'])] := by
  have hk : (k : Int) < 10 := by omega
  simp -implicitDefEqProofs (disch := omega) [c_pattern_text, h1, h1', hk, fits_s]
theorem pt_look (lk : Look) (E : D) (R : Txt) (h2 : R.length ≤ 9996) (h1 : S i_pattern_text [.d E] = .ok (.d (.str R)) [.d E]) : runF 1 3 (c_pattern_text S S') [.d (.tup [.str lk.t, E])] = .ok (.d (.str (60 :: lk.m :: (R ++ [62])))) [.d (.tup [.str lk.t, E])] := by
  cases lk <;> simp -implicitDefEqProofs (disch := omega) [c_pattern_text, Look.t, Look.m, h1, fits_s, List.lookup]
theorem pt_alt (E W : List D) (J : Txt) (EE : EV) (hE : eCall (S i_pattern_text) (aCons (eVar 2) aNil) = EE) (hc : compL 2 (eC (.bl true)) EE E [] [.d (.tup [.str [111, 114], .tup E]), .d (.str [111, 114]), .un] = .ok W [.d (.tup [.str [111, 114], .tup E]), .d (.str [111, 114]), .un]) (hj : opJoin [124] (.lst W) = some (.str J)) :
    runF 1 3 (c_pattern_text S S') [.d (.tup [.str [111, 114], .tup E])] = .ok (.d (.str J)) [.d (.tup [.str [111, 114], .tup E])] := by
  simp only [c_pattern_text, hE]
  simp -implicitDefEqProofs [hc, -opJoin, hj]
end
theorem pt_ok : ∀ (d n : Nat), PtOk (n + 2 * d + 3) d
  | d, n => by
    intro p hw hn
    have sub : ∀ e, d = e + 1 → ∀ m, PtOk (n + m + 2 * e + 3) e := fun e he m => pt_ok e (n + m)
    cases p with
    | sign c =>
      rw [sem_c rfl]
      exact pt_sign (sem codes (n + 2 * d + 2)) (sem' codes (n + 2 * d + 2)) c (sign_text_ok (n + 2 * d + 1) c special)
    | any => rw [sem_c rfl]; exact pt_any (sem codes (n + 2 * d + 2)) (sem' codes (n + 2 * d + 2))
    | runs o rs =>
      simp only [Wf] at hw
      rw [sem_c rfl]
      exact pt_runs (sem codes (n + 2 * d + 2)) (sem' codes (n + 2 * d + 2)) o _ _ (by have := runs_le rs; omega) (runs_text_ok (n + 2 * d) rs (by omega))
    | edge o => rw [sem_c rfl]; exact pt_edge (sem codes (n + 2 * d + 2)) (sem' codes (n + 2 * d + 2)) o
    | again k =>
      simp only [Wf] at hw
      rw [sem_c rfl]
      exact pt_again (sem codes (n + 2 * d + 2)) (sem' codes (n + 2 * d + 2)) k hw.2
    | row ps =>
      simp only [Pat.nd] at hn
      cases d with
      | zero =>
        simp only [Wf] at hw
        obtain ⟨_, rfl⟩ := hw
        have h1 : sem codes (n + 2) i_row_text [.d (.tup [])] = .ok (.d (.str [])) [.d (.tup [])] := by
          rw [sem_c rfl]
          simp -implicitDefEqProofs [c_row_text]
        rw [show n + 2 * 0 + 3 = n + 2 + 1 from rfl, sem_c rfl]
        exact pt_row (sem codes (n + 2)) (sem' codes (n + 2)) [] [] h1
      | succ e =>
        simp only [Wf] at hw
        have h1 := row_text_ok (sub e rfl 0) ps hw.2 (by omega)
        rw [show n + 2 * (e + 1) + 3 = n + 0 + 2 * e + 3 + 1 + 1 by omega, sem_c rfl]
        exact pt_row (sem codes (n + 0 + 2 * e + 3 + 1)) (sem' codes (n + 0 + 2 * e + 3 + 1)) _ _ h1
    | alt ps =>
      simp only [Pat.nd] at hn
      cases d with
      | zero => simp -implicitDefEqProofs [Wf] at hw
      | succ e =>
        simp only [Wf] at hw
        have hl := sub e rfl 1
        rw [show n + 1 + 2 * e + 3 = n + 2 * (e + 1) + 2 by omega] at hl
        rw [sem_c rfl]
        unfold PtOk at hl
        generalize sem codes (n + 2 * (e + 1) + 2) = S at *
        generalize sem' codes (n + 2 * (e + 1) + 2) = S' at *
        have hmem : ∀ p ∈ ps, Wf e p ∧ p.nd ≤ 100 := fun p hp => ⟨Wfs.mem hw.2.2 hp, by have := nd_mem hp; omega⟩
        have hc := compL_map (i := 2) (e := eCall (S i_pattern_text) (aCons (eVar 2) aNil)) (f := enc) (g := fun p => .str (wr p)) (r := [.d (.tup [.str [111, 114], .tup (ps.map enc)]), .d (.str [111, 114]), .un]) rfl ps [] (by simp; omega) (fun p hp => by
          have h1 := hl p (hmem p hp).1 (hmem p hp).2
          generalize ps.map enc = E at *
          generalize enc p = ep at *
          simp -implicitDefEqProofs [h1])
        have h2 := wrs_le hw.2.2
        have h3 := wrs_len ps
        have hj := opJoin_ok [124] (wrs ps) (by simp only [List.length_singleton]; omega)
        have e3 : ps.map (fun p => D.str (wr p)) = (wrs ps).map D.str := by rw [wrs_map, List.map_map]; rfl
        rw [e3] at hc
        have e4 : enc (.alt ps) = .tup [.str [111, 114], .tup (ps.map enc)] := by rw [← encs_map]; rfl
        rw [e4]
        exact pt_alt S S' _ _ _ _ rfl hc hj
    | times lo hi how p =>
      simp only [Pat.nd] at hn
      cases d with
      | zero => simp -implicitDefEqProofs [Wf] at hw
      | succ e =>
        simp only [Wf] at hw
        have h1 := times_text_ok (sub e rfl 0) lo hi how p hw.2.2 hw.1 (fun h eh => (hw.2.1 h eh).2.2) (by omega)
        rw [show n + 2 * (e + 1) + 3 = n + 0 + 2 * e + 3 + 1 + 1 by omega, sem_c rfl]
        exact pt_times (sem codes (n + 0 + 2 * e + 3 + 1)) (sem' codes (n + 0 + 2 * e + 3 + 1)) _ _ h1
    | group k p =>
      simp only [Pat.nd] at hn
      cases d with
      | zero => simp -implicitDefEqProofs [Wf] at hw
      | succ e =>
        simp only [Wf] at hw
        have h1 := sub e rfl 1 p hw.2.2 (by omega)
        have h2 := wr_le hw.2.2
        rw [show n + 1 + 2 * e + 3 = n + 2 * (e + 1) + 2 by omega] at h1
        rw [sem_c rfl]
        exact pt_group (sem codes (n + 2 * (e + 1) + 2)) (sem' codes (n + 2 * (e + 1) + 2)) _ _ _ (by omega) h1
    | have_ k p q =>
      simp only [Pat.nd] at hn
      cases d with
      | zero => simp -implicitDefEqProofs [Wf] at hw
      | succ e =>
        simp only [Wf] at hw
        have h1 := sub e rfl 1 p hw.2.2.1 (by omega)
        have h1' := sub e rfl 1 q hw.2.2.2 (by omega)
        have h2 := wr_le hw.2.2.1
        have h2' := wr_le hw.2.2.2
        rw [show n + 1 + 2 * e + 3 = n + 2 * (e + 1) + 2 by omega] at h1 h1'
        rw [sem_c rfl]
        exact pt_have (sem codes (n + 2 * (e + 1) + 2)) (sem' codes (n + 2 * (e + 1) + 2)) k hw.2.1 _ _ _ _ (by omega) (by omega) h1 h1'
    | look lk p =>
      simp only [Pat.nd] at hn
      cases d with
      | zero => simp -implicitDefEqProofs [Wf] at hw
      | succ e =>
        simp only [Wf] at hw
        have h1 := sub e rfl 1 p hw (by omega)
        have h2 := wr_le hw
        rw [show n + 1 + 2 * e + 3 = n + 2 * (e + 1) + 2 by omega] at h1
        rw [sem_c rfl]
        exact pt_look (sem codes (n + 2 * (e + 1) + 2)) (sem' codes (n + 2 * (e + 1) + 2)) lk _ _ (by omega) h1
end HT

namespace HT
open Sk
namespace Ex
open Rd
theorem init_ok (m : Nat) (T : Txt) : sem codes (m + 1) i_Reader___init__ [.ins true "Reader" [], .d (.str T)] = .ok (.d .non) [rs T 0 0, .d (.str T)] := by
  rw [sem_c rfl]
  generalize sem codes m = S
  generalize sem' codes m = S'
  simp -implicitDefEqProofs [c_Reader___init__, rd]
/-- what read_pattern tells of a text -/
structure Good (p : Pat) (K : Nat) : Prop where
  wf : Wf 7 p
  lk : Lk K p
  nd : p.nd ≤ 60
  rp : Rp p
  nm : num 0 p = some K
  k9 : K ≤ 9
theorem read_any (n : Nat) (T : Txt) (hT : ∀ c ∈ T, Sg c) (hTl : T.length ≤ 90000) : sem codes (n + 71) i_read_pattern [.d (.str T)] = .exc "Unread" ∨ ∃ (p : Pat) (K : Nat), sem codes (n + 71) i_read_pattern [.d (.str T)] = .ok (.d (enc p)) [.d (.str T)] ∧ wr p = T ∧ Good p K := by
  have h0 := init_ok (n + 68) T
  rw [show n + 68 + 1 = n + 69 from rfl, show sem codes (n + 69) i_Reader___init__ = sem' codes (n + 70) i_Reader___init__ from sem'_succ.symm] at h0
  rw [sem_c rfl]
  rcases whole_at T hT hTl 16 (n + 3) 1 (by omega) 0 0 (by omega) with h1 | ⟨p, j, K, h1, hp⟩
  · left
    rw [show n + 3 + 4 * 16 + 3 = n + 70 from rfl] at h1
    have h1 : sem codes (n + 70) i_Reader_whole [rs T 0 0, .d (.int 1)] = .exc "Unread" := h1
    generalize sem codes (n + 70) = S at *
    generalize sem' codes (n + 70) = S' at *
    simp -implicitDefEqProofs [c_read_pattern, h0, h1]
  · obtain ⟨q1, q2, q3, q4, q5⟩ := hp
    rw [show n + 3 + 4 * 16 + 3 = n + 70 from rfl] at h1
    have h1 : sem codes (n + 70) i_Reader_whole [rs T 0 0, .d (.int 1)] = .ok (.d (enc p)) [rs T j K, .d (.int 1)] := h1
    cases hd : T.drop j with
    | cons c rest =>
      left
      have h2 := ahead1 (n + 69) K hd
      rw [show n + 69 + 1 = n + 70 from rfl] at h2
      generalize (j : Int) = J at *
      generalize enc p = E at *
      generalize sem codes (n + 70) = S at *
      generalize sem' codes (n + 70) = S' at *
      simp -implicitDefEqProofs [c_read_pattern, h0, h1, h2]
    | nil =>
      have h2 := ahead0 (n + 69) K hd
      rw [show n + 69 + 1 = n + 70 from rfl] at h2
      have hj := drop_ge hd
      have hng := num_ng q4
      rw [Nat.zero_add] at hng
      have h3 := groups_in_any (4 * 16) (n + 4) p q5
      rw [show n + 4 + 4 * 16 + 2 = n + 70 from rfl, hng] at h3
      by_cases hK : (9 : Int) < (K : Int)
      · left
        generalize (j : Int) = J at *
        generalize enc p = E at *
        generalize sem codes (n + 70) = S at *
        generalize sem' codes (n + 70) = S' at *
        simp -implicitDefEqProofs [c_read_pattern, h0, h1, h2, h3, hK]
      · have hK9 : K ≤ 9 := by omega
        rcases look_any K hK9 8 (n + 60) p ⟨⟨_, q5⟩, 0, K, q4, hK9⟩ 1 rfl with h4 | ⟨h4, f, hf, wf, lk, hnd⟩
        · left
          rw [show n + 60 + 8 + 2 = n + 70 from rfl] at h4
          have h4 : sem codes (n + 70) i_look_at [.d (enc p), .d (.int K), .d (.int 1)] = .exc "Unread" := h4
          generalize (j : Int) = J at *
          generalize enc p = E at *
          generalize sem codes (n + 70) = S at *
          generalize sem' codes (n + 70) = S' at *
          simp -implicitDefEqProofs [c_read_pattern, h0, h1, h2, h3, hK, h4]
        · cases hf
          rw [show n + 60 + 8 + 2 = n + 70 from rfl] at h4
          have h4 : sem codes (n + 70) i_look_at [.d (enc p), .d (.int K), .d (.int 1)] = .ok (.d (.int p.nd)) [.d (enc p), .d (.int K), .d (.int 1)] := h4
          have h5 := pt_ok 7 (n + 53) p wf (by omega)
          rw [show n + 53 + 2 * 7 + 3 = n + 70 from rfl] at h5
          by_cases hT2 : wr p = T
          · right
            refine ⟨p, K, ?_, hT2, wf, lk, hnd, q3 (by rw [hT2]; omega), q4, hK9⟩
            clear q1 q3 wf lk
            generalize (j : Int) = J at *
            generalize enc p = E at *
            rw [hT2] at h5
            generalize sem codes (n + 70) = S at *
            generalize sem' codes (n + 70) = S' at *
            simp -implicitDefEqProofs [c_read_pattern, h0, h1, h2, h3, hK, h4, h5]
          · left
            clear q1 q3 wf lk
            generalize (j : Int) = J at *
            generalize enc p = E at *
            generalize wr p = W at *
            generalize sem codes (n + 70) = S at *
            generalize sem' codes (n + 70) = S' at *
            simp -implicitDefEqProofs [c_read_pattern, h0, h1, h2, h3, hK, h4, h5, hT2]
end Ex
end HT

namespace HT
open Sk
namespace Ex
open Rd
theorem law_parts_of_ok (n : Nat) (p : Pat) : sem codes (n + 1) i_law_parts_of [.d (enc p)] = .ok (.own (encs p.parts)) [.d (enc p)] := by
  rw [sem_c rfl]
  cases p with
  | look k p => cases k <;> simp [c_law_parts_of, enc, Look.t, encs, Pat.parts, inD, flatD, sameD]
  | runs o rs => cases o <;> simp [c_law_parts_of, enc, encs, Pat.parts, inD, flatD, sameD]
  | edge o => cases o <;> simp [c_law_parts_of, enc, encs, Pat.parts, inD, flatD, sameD]
  | _ => simp [c_law_parts_of, enc, encs, Pat.parts, inD, flatD, sameD]
theorem text_like_ok (n : Nat) (c : Nat) : sem codes (n + 1) i_law_text_like [.d (.str [c]), .d (.int 1)] = .ok (.d (.bl true)) [.d (.str [c]), .d (.int 1)] := by
  rw [sem_c rfl]
  simp [c_law_text_like]
theorem number_ok (n : Nat) (i lo hi : Int) : sem codes (n + 1) i_law_number [.d (.int i), .d (.int lo), .d (.int hi)] = .ok (.d (.bl (decide (lo ≤ i ∧ i ≤ hi)))) [.d (.int i), .d (.int lo), .d (.int hi)] := by
  rw [sem_c rfl]
  by_cases h1 : lo ≤ i
  · simp [c_law_number, h1]
  · simp [c_law_number, h1]
theorem good_runs_ok (n : Nat) (l : List (Nat × Nat)) (h1 : 1 ≤ l.length) (h8 : l.length ≤ 8) (hg : ∀ r ∈ l, r.1 ≤ r.2) : sem codes (n + 2) i_law_good_runs [.d (.tup (l.map encR))] = .ok (.d (.bl true)) [.d (.tup (l.map encR))] := by
  rw [sem_c rfl]
  have ht := fun c => text_like_ok n c
  generalize sem codes (n + 1) = S at *
  generalize sem' codes (n + 1) = S' at *
  have loop : ∀ (l : List (Nat × Nat)) (x : A) (y : A), freeA y = true → (∀ r ∈ l, r.1 ≤ r.2) → ∃ y', forL 1 (l_law_good_runs_1 S S') (l.map encR) [x, y] = .nx [x, y'] := by
    intro l
    induction l with
    | nil => intro x y hy _; exact ⟨y, by simp⟩
    | cons r l ih =>
      intro x y hy hg
      have h2 := hg r List.mem_cons_self
      have h2 : ¬ (r.2 : Int) < (r.1 : Int) := by omega
      obtain ⟨y', e⟩ := ih x (.d (encR r)) rfl fun q hq => hg q (List.mem_cons_of_mem _ hq)
      refine ⟨y', ?_⟩
      rw [List.map_cons, forL_go (r1 := [x, .d (encR r)]) (by simpa using hy) (by simp) (by
        rw [show encR r = .tup [.str [r.1], .str [r.2]] from rfl]
        simp -implicitDefEqProofs [l_law_good_runs_1, ht, h2])]
      exact e
  obtain ⟨y', e⟩ := loop l (.d (.tup (l.map encR))) .un rfl hg
  have q1 : ¬ (l.length : Int) < 1 := by omega
  have q2 : ¬ (8 : Int) < (l.length : Int) := by omega
  have hl : (l.map encR).length = l.length := List.length_map _
  generalize l.map encR = E at *
  simp -implicitDefEqProofs [c_law_good_runs, hl, q1, q2, e]
theorem good_turns_ok (n : Nat) (lo : Nat) (hi : Option Nat) (how : How) (x : D) (hlo : lo ≤ 9) (hh : ∀ h, hi = some h → lo ≤ h ∧ 1 ≤ h ∧ h ≤ 9) : sem codes (n + 2) i_law_good_turns [.d (.tup [.str [116, 105, 109, 101, 115], .int lo, encH hi, .str how.t, x])] = .ok (.d (.bl true)) [.d (.tup [.str [116, 105, 109, 101, 115], .int lo, encH hi, .str how.t, x])] := by
  rw [sem_c rfl]
  have hn := fun i a b => number_ok n i a b
  have n1 := hn lo 0 9
  rw [show decide ((0 : Int) ≤ lo ∧ (lo : Int) ≤ 9) = true by simp; omega] at n1
  cases hi with
  | none =>
    rw [show encH none = .non from rfl]
    clear hn
    generalize sem codes (n + 1) = S at *
    generalize sem' codes (n + 1) = S' at *
    cases how <;> simp -implicitDefEqProofs [c_law_good_turns, n1, How.t, inD, flatD, sameD]
  | some h =>
    obtain ⟨q1, q2, q3⟩ := hh h rfl
    have n2 := hn h (if (1 : Int) < lo then lo else 1) 9
    rw [show decide ((if (1 : Int) < lo then (lo : Int) else 1) ≤ h ∧ (h : Int) ≤ 9) = true by simp; split <;> omega] at n2
    rw [show encH (some h) = .int h from rfl]
    clear hn
    generalize sem codes (n + 1) = S at *
    generalize sem' codes (n + 1) = S' at *
    cases how <;> simp -implicitDefEqProofs [c_law_good_turns, n1, How.t, inD, flatD, sameD, n2]
end Ex
end HT

namespace HT
open Sk
namespace Ex
open Rd
/-- one more group seen -/
def gOne : Pat → Nat
  | .group _ _ => 1
  | _ => 0
/-- what holds of each part of what was told -/
structure Gd (e K : Nat) (p : Pat) : Prop where
  wf : Wf e p
  lk : Lk K p
  rp : Rp p
theorem head_ok (m K e : Nat) (p : Pat) (h : Gd e K p) (L : List D) (hL : L.length ≤ 1000) (t : Nat) : ∃ (b : Bool) (L' : List D), sem codes (m + 3) i_law_good_head [.d (enc p), .own true L, .d (.int t)] = .ok (.d (.bl b)) [.d (enc p), .own true L', .d (.int t)] ∧ L'.length = L.length + gOne p ∧ (t = K → (∃ G', num L.length p = some G') → b = true) := by
  obtain ⟨hw, hk, hr⟩ := h
  have hn := fun i a b => number_ok (m + 1) i a b
  have ht := fun c => text_like_ok (m + 1) c
  have hgr := fun l h1 h8 hg => good_runs_ok m l h1 h8 hg
  have hgt := fun lo hi how x hlo hh => good_turns_ok m lo hi how x hlo hh
  rw [sem_c rfl]
  rw [show m + 1 + 1 = m + 2 from rfl] at hn ht
  generalize sem codes (m + 2) = S at *
  generalize sem' codes (m + 2) = S' at *
  cases p with
  | sign c => exact ⟨true, L, by simp -implicitDefEqProofs [c_law_good_head, enc, ht], rfl, fun _ _ => rfl⟩
  | any => exact ⟨true, L, by simp -implicitDefEqProofs [c_law_good_head, enc, inD, flatD, sameD], rfl, fun _ _ => rfl⟩
  | edge o => exact ⟨true, L, by cases o <;> simp -implicitDefEqProofs [c_law_good_head, enc, inD, flatD, sameD], rfl, fun _ _ => rfl⟩
  | runs o l =>
    simp only [Wf] at hw
    have h1 := hgr l hw.1 hw.2.1 fun r hr => (hw.2.2 r hr).2.2
    refine ⟨true, L, ?_, rfl, fun _ _ => rfl⟩
    rw [show enc (.runs o l) = .tup [.str (if o then [111, 117, 116] else [105, 110]), .tup (l.map encR)] from rfl]
    generalize l.map encR = E at *
    cases o <;> simp -implicitDefEqProofs [c_law_good_head, inD, flatD, sameD, h1]
  | again k =>
    have h1 := hn k 1 t
    simp only [Lk] at hk
    refine ⟨_, L, by simp -implicitDefEqProofs [c_law_good_head, enc, inD, flatD, sameD, h1]; rfl, rfl, fun h _ => by simp; omega⟩
  | have_ k a q =>
    have h1 := hn k 1 t
    simp only [Lk] at hk
    rw [show enc (.have_ k a q) = .tup [.str [104, 97, 118, 101], .int k, enc a, enc q] from rfl]
    generalize enc a = A at *
    generalize enc q = B at *
    refine ⟨_, L, by simp -implicitDefEqProofs [c_law_good_head, inD, flatD, sameD, h1]; rfl, rfl, fun h _ => by simp; omega⟩
  | times lo hi how q =>
    simp only [Wf] at hw
    have h1 := hgt lo hi how (enc q) hw.1 hw.2.1
    rw [show enc (.times lo hi how q) = .tup [.str [116, 105, 109, 101, 115], .int lo, encH hi, .str how.t, enc q] from rfl]
    generalize enc q = B at *
    generalize encH hi = H at *
    generalize how.t = W at *
    exact ⟨true, L, by simp -implicitDefEqProofs [c_law_good_head, inD, flatD, sameD, h1], rfl, fun _ _ => rfl⟩
  | group k q =>
    have h1 := hn k (L.length + 1) (L.length + 1)
    rw [show enc (.group k q) = .tup [.str [103, 114, 111, 117, 112], .int k, enc q] from rfl]
    have hf : Fit1 L.length := fit1_of (by omega)
    generalize enc q = B at *
    refine ⟨_, L ++ [.int 0], by simp -implicitDefEqProofs [c_law_good_head, inD, flatD, sameD, h1, hf]; rfl, by simp [gOne], ?_⟩
    rintro _ ⟨G', hG⟩
    simp only [num] at hG
    split at hG
    · rename_i he
      simp; omega
    · cases hG
  | row ps =>
    simp only [Rp] at hr
    simp only [Lk] at hk
    rw [show enc (.row ps) = .tup [.str [114, 111, 119], .tup (encs ps)] from rfl]
    have q1 : ¬ (8 : Int) < (ps.length : Int) := by omega
    have q2 : ¬ (ps.length : Int) = 1 := by omega
    have q3 : ¬ ps.length = 1 := hr.1
    have hl := encs_len ps
    generalize encs ps = E at *
    exact ⟨true, L, by simp -implicitDefEqProofs [c_law_good_head, inD, flatD, sameD, hl, q1, q2, q3], rfl, fun _ _ => rfl⟩
  | alt ps =>
    simp only [Lk] at hk
    have h2 : 2 ≤ ps.length := by simp only [Wf] at hw; exact hw.1
    rw [show enc (.alt ps) = .tup [.str [111, 114], .tup (encs ps)] from rfl]
    have q1 : ¬ (8 : Int) < (ps.length : Int) := by omega
    have q2 : ¬ (ps.length : Int) = 1 := by omega
    have q3 : ¬ ps.length = 1 := by omega
    have q4 : 0 < ps.length := by omega
    have hl := encs_len ps
    generalize encs ps = E at *
    exact ⟨true, L, by simp -implicitDefEqProofs [c_law_good_head, inD, flatD, sameD, hl, q1, q2, q3, q4], rfl, fun _ _ => rfl⟩
  | look k q =>
    rw [show enc (.look k q) = .tup [.str k.t, enc q] from rfl]
    generalize enc q = B at *
    exact ⟨true, L, by cases k <;> simp -implicitDefEqProofs [c_law_good_head, inD, flatD, sameD, Look.t], rfl, fun _ _ => rfl⟩
theorem rps_mem : ∀ {ps : List Pat}, Rps ps → ∀ q ∈ ps, Rp q
  | [], _, q, h => by cases h
  | p :: ps, w, q, h => by
    simp only [Rps] at w
    rcases List.mem_cons.mp h with rfl | h
    · exact w.1
    · exact rps_mem w.2 q h
theorem lks_mem {K : Nat} : ∀ {ps : List Pat}, Lks K ps → ∀ q ∈ ps, Lk K q
  | [], _, q, h => by cases h
  | p :: ps, w, q, h => by
    simp only [Lks] at w
    rcases List.mem_cons.mp h with rfl | h
    · exact w.1
    · exact lks_mem w.2 q h
theorem rp_parts : ∀ {p : Pat}, Rp p → ∀ q ∈ p.parts, Rp q
  | .row ps, h, q, hq => by simp only [Rp] at h; exact rps_mem h.2.1 q hq
  | .alt ps, h, q, hq => by simp only [Rp] at h; exact rps_mem h.1 q hq
  | .times _ _ _ p, h, q, hq => by simp only [Rp] at h; simp [Pat.parts] at hq; subst hq; exact h
  | .group _ p, h, q, hq => by simp only [Rp] at h; simp [Pat.parts] at hq; subst hq; exact h
  | .have_ _ a b, h, q, hq => by simp only [Rp] at h; simp [Pat.parts] at hq; rcases hq with rfl | rfl; exact h.1; exact h.2
  | .look _ p, h, q, hq => by simp only [Rp] at h; simp [Pat.parts] at hq; subst hq; exact h
  | .sign _, _, q, hq => by cases hq
  | .any, _, q, hq => by cases hq
  | .runs _ _, _, q, hq => by cases hq
  | .edge _, _, q, hq => by cases hq
  | .again _, _, q, hq => by cases hq
theorem Gd.parts {e K : Nat} {p : Pat} (h : Gd (e + 1) K p) : ∀ q ∈ p.parts, Gd e K q := fun q hq => ⟨h.wf.parts.mem hq, lks_mem (lk_parts h.lk).1 q hq, rp_parts h.rp q hq⟩
/-- a row or branches: no part is such -/
theorem same_no {p : Pat} (h : Rp p) : ∃ rb : Bool, inD (.str p.w) (.tup [.str [114, 111, 119], .str [111, 114]]) = some rb ∧ (rb = true → ∀ q ∈ p.parts, ¬ q.w = p.w) := by
  cases p with
  | row ps =>
    simp only [Rp] at h
    refine ⟨true, rfl, fun _ q hq => ?_⟩
    have := h.2.2 q hq
    cases q with
    | row _ => simp [Pat.isRow] at this
    | look k q => cases k <;> simp [Pat.w, Look.t]
    | runs o l => cases o <;> simp [Pat.w]
    | edge o => cases o <;> simp [Pat.w]
    | _ => simp [Pat.w]
  | alt ps =>
    simp only [Rp] at h
    refine ⟨true, rfl, fun _ q hq => ?_⟩
    have := h.2 q hq
    cases q with
    | alt _ => simp [Pat.isAlt] at this
    | look k q => cases k <;> simp [Pat.w, Look.t]
    | runs o l => cases o <;> simp [Pat.w]
    | edge o => cases o <;> simp [Pat.w]
    | _ => simp [Pat.w]
  | look k q => exact ⟨false, by cases k <;> rfl, fun h => by cases h⟩
  | runs o l => exact ⟨false, by cases o <;> rfl, fun h => by cases h⟩
  | edge o => exact ⟨false, by cases o <;> rfl, fun h => by cases h⟩
  | _ => exact ⟨false, rfl, fun h => by cases h⟩
theorem ng_parts (p : Pat) : p.ng = gOne p + ngs p.parts := by
  rw [ng_eq]
  congr 1
  cases p with
  | look k p => cases k <;> simp [gOne, Pat.w, Look.t]
  | runs o rs => cases o <;> simp [gOne, Pat.w]
  | edge o => cases o <;> simp [gOne, Pat.w]
  | _ => simp [gOne, Pat.w]
theorem num_go {p : Pat} {k m : Nat} (h : num k p = some m) : nums (k + gOne p) p.parts = some m := by
  cases p with
  | row ps => exact h
  | alt ps => exact h
  | times lo hi how p => simp only [num] at h; simp [gOne, Pat.parts, nums, h]
  | group n p =>
    simp only [num] at h
    split at h
    · simp [gOne, Pat.parts, nums, h]
    · cases h
  | have_ n a b =>
    simp only [num] at h
    cases e : num k a with
    | none => rw [e] at h; cases h
    | some j =>
      rw [e] at h
      have h : num j b = some m := h
      simp [gOne, Pat.parts, nums, e, h]
  | look k' p => simp only [num] at h; simp [gOne, Pat.parts, nums, h]
  | _ => simp only [num] at h; simp [gOne, Pat.parts, nums, h]
end Ex
end HT

namespace HT
open Sk
namespace Ex
open Rd
/-- what _law_size tells of a part -/
def SzOk (S : Nat → FSem) (K t deep : Nat) (q : Pat) : Prop := ∀ L : List D, L.length + q.nd ≤ 1000 → ∃ (z : Nat) (L' : List D), S i_law_size [.d (enc q), .own true L, .d (.int t), .d (.int deep)] = .ok (.d (.int z)) [.d (enc q), .own true L', .d (.int t), .d (.int deep)] ∧ 1 ≤ z ∧ L'.length ≤ L.length + q.nd ∧ (z < 1000 → L'.length = L.length + q.ng) ∧ (t = K → ∀ G', num L.length q = some G' → z = q.nd ∧ L'.length = L.length + q.ng)
theorem size_loop (S S' : Nat → FSem) (K t deep : Nat) (w : Txt) (l : List D) (rb : Bool) (hin : inD (.str w) (.tup [.str [114, 111, 119], .str [111, 114]]) = some rb) : ∀ (ps : List Pat) (z0 : Nat) (L0 : List D) (y : A), freeA y = true → L0.length + nds ps ≤ 1000 → (∀ q ∈ ps, SzOk S K t (deep + 1) q) → (∀ q ∈ ps, rb = true → ¬ q.w = w) →
    ∃ (z1 : Nat) (L1 : List D) (y' : A), forL 5 (l_law_size_1 S S') (encs ps) [.d (.tup (.str w :: l)), .own true L0, .d (.int t), .d (.int deep), .d (.int z0), y] = .nx [.d (.tup (.str w :: l)), .own true L1, .d (.int t), .d (.int deep), .d (.int z1), y'] ∧ z0 ≤ z1 ∧ L1.length ≤ L0.length + nds ps ∧ (z1 < 1000 → L1.length = L0.length + ngs ps) ∧ (t = K → ∀ G', nums L0.length ps = some G' → z1 = z0 + nds ps ∧ L1.length = L0.length + ngs ps)
  | [], z0, L0, y, hy, hL, h, hne => ⟨z0, L0, y, by simp [encs], by omega, by simp [nds], by simp [ngs], by simp [nds, ngs]⟩
  | q :: ps, z0, L0, y, hy, hL, h, hne => by
    simp only [nds] at hL
    obtain ⟨z, L, h1, z1, l1, g1, k1⟩ := h q List.mem_cons_self L0 (by omega)
    obtain ⟨z2, L2, y', e, q1, q2, q3, q4⟩ := size_loop S S' K t deep w l rb hin ps (z0 + z) L (.d (enc q)) rfl (by omega) (fun x hx => h x (List.mem_cons_of_mem _ hx)) fun x hx => hne x (List.mem_cons_of_mem _ hx)
    refine ⟨z2, L2, y', ?_, by omega, by simp only [nds]; omega, ?_, ?_⟩
    · rw [show encs (q :: ps) = enc q :: encs ps from rfl, ← e]
      have hn := hne q List.mem_cons_self
      obtain ⟨lq, el⟩ := enc_w q
      have h1 : S i_law_size [.d (enc q), .own true L0, .d (.int t), .d (.int ((deep : Int) + 1))] = .ok (.d (.int z)) [.d (enc q), .own true L, .d (.int t), .d (.int ((deep : Int) + 1))] := h1
      rw [show ((z0 + z : Nat) : Int) = (z0 : Int) + (z : Int) from rfl]
      clear e q1 q2 q3 q4 h hne
      rw [el] at h1 ⊢
      generalize q.w = qw at *
      generalize (z0 : Int) = Z0 at *
      generalize (z : Int) = Z at *
      refine forL_go (by simpa using hy) (by simp) ?_
      cases rb with
      | false => simp -implicitDefEqProofs [l_law_size_1, h1, hin]
      | true =>
        have hn := hn rfl
        by_cases hz : Z0 + Z < 1000
        · simp -implicitDefEqProofs [l_law_size_1, h1, hin, hz, hn]
        · simp -implicitDefEqProofs [l_law_size_1, h1, hin, hz]
    · intro hz
      have a := g1 (by omega)
      have b := q3 hz
      simp only [ngs]; omega
    · intro ht G' hG
      simp only [nums] at hG
      cases e1 : num L0.length q with
      | none => rw [e1] at hG; cases hG
      | some j =>
        rw [e1] at hG
        have hG : nums j ps = some G' := hG
        obtain ⟨a, b⟩ := k1 ht j e1
        have hj := num_ng e1
        have hLj : L.length = j := by omega
        obtain ⟨c, d⟩ := q4 ht G' (by rw [hLj]; exact hG)
        simp only [nds, ngs]
        omega
theorem size_step (K e n : Nat) (p : Pat) (hg : Gd e K p) (deep t : Nat) (hd : deep ≤ 8) (ih : ∀ q ∈ p.parts, SzOk (sem codes (n + 3)) K t (deep + 1) q) : SzOk (sem codes (n + 4)) K t deep p := by
    intro L hL
    obtain ⟨b, L1, h1, l1, k1⟩ := head_ok n K e p hg L (by omega) t
    have h2 := law_parts_of_ok (n + 2) p
    have hd8 : ¬ (8 : Int) < deep := by omega
    obtain ⟨rb, hin, hne⟩ := same_no hg.rp
    obtain ⟨l, el⟩ := enc_w p
    have hl1 : ¬ (l.length : Int) + 1 < 1 := by omega
    have hnp := nd_parts p
    have hng := ng_parts p
    have hg1 : gOne p ≤ 1 := by cases p <;> simp [gOne]
    have hgo := fun m (h : num L.length p = some m) => num_go h
    have hrp := hg.rp
    clear hg
    cases b with
    | false =>
      refine ⟨1000, L1, ?_, by omega, by omega, fun h => by omega, ?_⟩
      · rw [sem_c rfl]
        clear ih
        rw [el] at h1 ⊢
        generalize sem codes (n + 3) = S at *
        generalize sem' codes (n + 3) = S' at *
        simp -implicitDefEqProofs [c_law_size, hd8, h1, hl1]
      · intro ht G' hG
        have := k1 ht ⟨G', hG⟩
        cases this
    | true =>
      obtain ⟨z, L2, y', e1, q1, q2, q3, q4⟩ := size_loop (sem codes (n + 3)) (sem' codes (n + 3)) K t deep p.w l rb hin p.parts 1 L1 .un rfl (by omega) ih fun q hq hb => hne hb q hq
      refine ⟨z, L2, ?_, q1, by omega, fun hz => by have := q3 hz; omega, ?_⟩
      · rw [sem_c rfl]
        clear ih k1 q3 q4
        rw [el] at h1 h2 ⊢
        rw [show n + 2 + 1 = n + 3 from rfl] at h2
        have e1 : forL 5 (l_law_size_1 (sem codes (n + 3)) (sem' codes (n + 3))) (encs p.parts) [.d (.tup (.str p.w :: l)), .own true L1, .d (.int t), .d (.int deep), .d (.int 1), .un] = _ := e1
        generalize hb : l_law_size_1 (sem codes (n + 3)) (sem' codes (n + 3)) = bb at *
        simp only [c_law_size, hb]
        generalize encs p.parts = E at *
        generalize p.w = pw at *
        generalize (z : Int) = Z at *
        generalize sem codes (n + 3) = S at *
        generalize sem' codes (n + 3) = S' at *
        simp -implicitDefEqProofs [hd8, h1, h2, e1, hl1]
      · intro ht G' hG
        obtain ⟨a, b⟩ := q4 ht G' (by rw [l1]; exact hgo G' hG)
        omega
theorem size_ok (K : Nat) (e : Nat) : ∀ (n : Nat) (p : Pat), Gd e K p → ∀ deep t : Nat, deep + e ≤ 8 → SzOk (sem codes (n + e + 4)) K t deep p := by
  induction e with
  | zero =>
    intro n p hg deep t hd
    refine size_step K 0 (n + 0) p hg deep t (by omega) ?_
    intro q hq
    rw [hg.wf.parts0] at hq
    cases hq
  | succ e ih =>
    intro n p hg deep t hd
    refine size_step K (e + 1) (n + (e + 1)) p hg deep t (by omega) ?_
    intro q hq
    have h0 := ih n q (hg.parts q hq) (deep + 1) t (by omega)
    rw [show n + (e + 1) + 3 = n + e + 4 by omega]
    exact h0
/-- _law_good tells whether that many groups it has -/
theorem good_ok (n : Nat) (p : Pat) (K t : Nat) (hg : Good p K) : sem codes (n + 12) i_law_good [.d (enc p), .d (.int t)] = .ok (.d (.bl (decide (t = K)))) [.d (enc p), .d (.int t)] := by
  obtain ⟨w, lk, nd, rp, nm, k9⟩ := hg
  have hng := num_ng nm
  rw [Nat.zero_add] at hng
  obtain ⟨z, L, h1, z1, _, g1, k1⟩ := size_ok K 7 n p ⟨w, lk, rp⟩ 1 t (by omega) [] (by simp; omega)
  rw [show n + 7 + 4 = n + 11 from rfl] at h1
  have g1 : z < 1000 → L.length = p.ng := fun h => by have := g1 h; simpa using this
  have k1 : t = K → z = p.nd ∧ L.length = p.ng := fun h => by have := k1 h K nm; simpa using this
  have h1 : sem codes (n + 11) i_law_size [.d (enc p), .own true [], .d (.int t), .d (.int 1)] = .ok (.d (.int z)) [.d (enc p), .own true L, .d (.int t), .d (.int 1)] := h1
  rw [sem_c rfl]
  generalize enc p = E at *
  generalize sem codes (n + 11) = S at *
  generalize sem' codes (n + 11) = S' at *
  by_cases ht : t = K
  · obtain ⟨a, b⟩ := k1 ht
    have b1 : (z : Int) ≤ 60 := by omega
    have b2 : (L.length : Int) = (t : Int) := by omega
    have b3 : (t : Int) ≤ 9 := by omega
    have b4 : L.length = t := by omega
    subst ht
    simp -implicitDefEqProofs [c_law_good, h1, b1, b3, b4]
  · by_cases hz : (z : Int) ≤ 60
    · have := g1 (by omega)
      have b2 : ¬ (L.length : Int) = (t : Int) := by omega
      have b4 : ¬ L.length = t := by omega
      simp -implicitDefEqProofs [c_law_good, h1, hz, b2, b4, ht]
    · simp -implicitDefEqProofs [c_law_good, h1, hz, ht]
end Ex
end HT

namespace HT
open Sk
section
variable (S S' : Nat → FSem)
theorem signed_ok (c : Nat) (sp : Txt) : runF 2 2 (c_law_signed S S') [.d (.str [c]), .d (.str sp)] = .ok (.d (.str (sgn sp c))) [.d (.str [c]), .d (.str sp)] := by
  have hf : Fits 2 := fits_of (by omega)
  by_cases h : c ∈ sp <;> simp -implicitDefEqProofs [c_law_signed, sgn, h]
theorem run_text_ok (hs : ∀ (c : Nat) (sp : Txt), S i_law_signed [.d (.str [c]), .d (.str sp)] = .ok (.d (.str (sgn sp c))) [.d (.str [c]), .d (.str sp)]) (r : Nat × Nat) : runF 1 2 (c_law_run_text S S') [.d (encR r)] = .ok (.d (.str (rn r))) [.d (encR r)] := by
  obtain ⟨x, y⟩ := r
  have s1 := hs x within
  have s2 := hs y within
  have l1 := sgn_le within x
  have l2 := sgn_le within y
  unfold within at s1 s2
  by_cases hxy : x = y
  · subst hxy
    simp -implicitDefEqProofs [c_law_run_text, encR, rn, s1, within]
  · simp only [rn, if_neg hxy]
    simp only [within] at l1 l2 ⊢
    generalize sgn [92, 91, 93, 94, 45] x = sx at *
    generalize sgn [92, 91, 93, 94, 45] y = sy at *
    simp -implicitDefEqProofs (disch := omega) [c_law_run_text, encR, s1, s2, hxy, fits_s]
theorem inner_ok (p : Pat) (w : List Txt) (R : Txt) (hR : R.length ≤ 9996) (b : Bool) (hb : inD (.str p.w) (.tup (w.map D.str)) = some b) (h : S i_law_written [.d (enc p)] = .ok (.d (.str R)) [.d (enc p)]) : runF 2 2 (c_law_inner S S') [.d (enc p), .d (.tup (w.map D.str))] = .ok (.d (.str (wrapT b R))) [.d (enc p), .d (.tup (w.map D.str))] := by
  obtain ⟨l, el⟩ := enc_w p
  rw [el] at h ⊢
  generalize p.w = pw at *
  generalize w.map D.str = W at *
  cases b <;> simp only [wrapT, if_true, if_false, Bool.false_eq_true] <;> simp -implicitDefEqProofs (disch := omega) [c_law_inner, h, hb, fits_s]
theorem leaf_sign (c : Nat) (h1 : S i_law_signed [.d (.str [c]), .d (.str special)] = .ok (.d (.str (sgn special c))) [.d (.str [c]), .d (.str special)]) : runF 1 2 (c_law_leaf_text S S') [.d (enc (.sign c))] = .ok (.d (.str (wr (.sign c)))) [.d (enc (.sign c))] := by
  unfold special at h1
  simp -implicitDefEqProofs [c_law_leaf_text, enc, wr, h1, special]
theorem leaf_any : runF 1 2 (c_law_leaf_text S S') [.d (enc .any)] = .ok (.d (.str (wr .any))) [.d (enc .any)] := by simp -implicitDefEqProofs [c_law_leaf_text, enc, wr, inD, flatD, sameD, List.lookup]
theorem leaf_edge (o : Bool) : runF 1 2 (c_law_leaf_text S S') [.d (enc (.edge o))] = .ok (.d (.str (wr (.edge o)))) [.d (enc (.edge o))] := by cases o <;> simp -implicitDefEqProofs [c_law_leaf_text, enc, wr, inD, flatD, sameD, List.lookup]
theorem leaf_again (k : Nat) (h : k ≤ 9) : runF 1 2 (c_law_leaf_text S S') [.d (enc (.again k))] = .ok (.d (.str (wr (.again k)))) [.d (enc (.again k))] := by
  have h1 : (k : Int) < 10 := by omega
  have f : Fits 2 := fits_of (by omega)
  simp -implicitDefEqProofs [c_law_leaf_text, enc, wr, h1, inD, flatD, sameD]
theorem leaf_runs (o : Bool) (rs : List (Nat × Nat)) (hl : rs.length ≤ 20) (h1 : ∀ r, S i_law_run_text [.d (encR r)] = .ok (.d (.str (rn r))) [.d (encR r)]) : runF 1 2 (c_law_leaf_text S S') [.d (enc (.runs o rs))] = .ok (.d (.str (wr (.runs o rs)))) [.d (enc (.runs o rs))] := by
  have hc := compL_map (i := 1) (e := eCall (S i_law_run_text) (aCons (eVar 1) aNil)) (f := encR) (g := fun r => .str (rn r)) (r := [.d (.tup [.str (if o then [111, 117, 116] else [105, 110]), .tup (rs.map encR)]), .un]) rfl rs [] (by simp; omega) (fun r hr => by
    have h2 := h1 r
    generalize rs.map encR = E at *
    generalize encR r = er at *
    simp -implicitDefEqProofs [h2])
  have h3 := runs_le rs
  have hs : ((rs.map rn).map List.length).sum = (rs.map rn).flatten.length := by rw [List.length_flatten]
  have hj := opJoin_ok [] (rs.map rn) (by rw [hs]; simp; simp at h3; omega)
  rw [joinT_flat] at hj
  have e3 : rs.map (fun r => D.str (rn r)) = (rs.map rn).map D.str := by rw [List.map_map]; rfl
  rw [e3] at hc
  have hwr : wr (.runs o rs) = (if o then [91, 94] else [91]) ++ ((rs.map rn).flatten ++ [93]) := rfl
  have hen : enc (.runs o rs) = .tup [.str (if o then [111, 117, 116] else [105, 110]), .tup (rs.map encR)] := rfl
  rw [hwr, hen]
  clear hs
  generalize (rs.map rn).flatten = J at *
  generalize (rs.map rn).map D.str = W at *
  generalize rs.map encR = E at *
  generalize hE : eCall (S i_law_run_text) (aCons (eVar 1) aNil) = EE at *
  simp only [c_law_leaf_text, hE]
  cases o <;> simp only [if_true, if_false, Bool.false_eq_true] at * <;> simp -implicitDefEqProofs (disch := omega) [hc, -opJoin, hj, inD, flatD, sameD, fits_s]
/-! _law_written -/
theorem lw_leaf (E : List D) (w : Txt) (R : Txt) (hw : w ≠ [114, 111, 119] ∧ w ≠ [111, 114] ∧ w ≠ [116, 105, 109, 101, 115] ∧ w ≠ [103, 114, 111, 117, 112] ∧ w ≠ [104, 97, 118, 101] ∧ w ≠ [111, 110, 99, 101] ∧ w ≠ [97, 104, 101, 97, 100] ∧ w ≠ [110, 111, 116, 97, 104, 101, 97, 100] ∧ w ≠ [98, 101, 104, 105, 110, 100] ∧ w ≠ [110, 111, 116, 98, 101, 104, 105, 110, 100]) (h1 : S i_law_leaf_text [.d (.tup (.str w :: E))] = .ok (.d (.str R)) [.d (.tup (.str w :: E))]) : runF 1 5 (c_law_written S S') [.d (.tup (.str w :: E))] = .ok (.d (.str R)) [.d (.tup (.str w :: E))] := by
  obtain ⟨w1, w2, w3, w4, w5, w6, w7, w8, w9, w10⟩ := hw
  have b6 := beq_eq_false_iff_ne.mpr w6
  have b7 := beq_eq_false_iff_ne.mpr w7
  have b8 := beq_eq_false_iff_ne.mpr w8
  have b9 := beq_eq_false_iff_ne.mpr w9
  have b10 := beq_eq_false_iff_ne.mpr w10
  simp -implicitDefEqProofs [c_law_written, h1, w1, w2, w3, w4, w5, inD, List.lookup, b6, b7, b8, b9, b10]
theorem lw_row (E W : List D) (J : Txt) (EE : EV) (hE : eCall (S i_law_inner) (aCons (eVar 2) (aCons (eTup (aCons (eC (.str [111, 114])) aNil)) aNil)) = EE) (hc : compL 2 (eC (.bl true)) EE E [] [.d (.tup [.str [114, 111, 119], .tup E]), .d (.str [114, 111, 119]), .un, .un, .un] = .ok W [.d (.tup [.str [114, 111, 119], .tup E]), .d (.str [114, 111, 119]), .un, .un, .un]) (hj : opJoin [] (.lst W) = some (.str J)) :
    runF 1 5 (c_law_written S S') [.d (.tup [.str [114, 111, 119], .tup E])] = .ok (.d (.str J)) [.d (.tup [.str [114, 111, 119], .tup E])] := by
  simp only [c_law_written, hE]
  simp -implicitDefEqProofs [hc, -opJoin, hj]
theorem lw_alt (E W : List D) (J : Txt) (EE : EV) (hE : eCall (S i_law_written) (aCons (eVar 2) aNil) = EE) (hc : compL 2 (eC (.bl true)) EE E [] [.d (.tup [.str [111, 114], .tup E]), .d (.str [111, 114]), .un, .un, .un] = .ok W [.d (.tup [.str [111, 114], .tup E]), .d (.str [111, 114]), .un, .un, .un]) (hj : opJoin [124] (.lst W) = some (.str J)) :
    runF 1 5 (c_law_written S S') [.d (.tup [.str [111, 114], .tup E])] = .ok (.d (.str J)) [.d (.tup [.str [111, 114], .tup E])] := by
  simp only [c_law_written, hE]
  simp -implicitDefEqProofs [hc, -opJoin, hj]
theorem lw_group (k : Int) (E : D) (R : Txt) (h2 : R.length ≤ 9996) (h1 : S i_law_written [.d E] = .ok (.d (.str R)) [.d E]) : runF 1 5 (c_law_written S S') [.d (.tup [.str [103, 114, 111, 117, 112], .int k, E])] = .ok (.d (.str (40 :: (R ++ [41])))) [.d (.tup [.str [103, 114, 111, 117, 112], .int k, E])] := by
  simp -implicitDefEqProofs (disch := omega) [c_law_written, h1, fits_s]
theorem lw_have (k : Nat) (hk : k ≤ 9) (E E' : D) (R R' : Txt) (h2 : R.length ≤ 9996) (h2' : R'.length ≤ 9996) (h1 : S i_law_written [.d E] = .ok (.d (.str R)) [.d E]) (h1' : S i_law_written [.d E'] = .ok (.d (.str R')) [.d E']) :
    runF 1 5 (c_law_written S S') [.d (.tup [.str [104, 97, 118, 101], .int k, E, E'])] = .ok (.d (.str (60 :: (48 + k) :: (R ++ 126 :: (R' ++ [62]))))) [.d (.tup [.str [104, 97, 118, 101], .int k, E, E'])] := by
  have hk : (k : Int) < 10 := by omega
  simp -implicitDefEqProofs (disch := omega) [c_law_written, h1, h1', hk, fits_s]
theorem lw_look (lk : Look) (E : D) (R : Txt) (h2 : R.length ≤ 9996) (h1 : S i_law_written [.d E] = .ok (.d (.str R)) [.d E]) : runF 1 5 (c_law_written S S') [.d (.tup [.str lk.t, E])] = .ok (.d (.str (60 :: lk.m :: (R ++ [62])))) [.d (.tup [.str lk.t, E])] := by
  cases lk <;> simp -implicitDefEqProofs (disch := omega) [c_law_written, Look.t, Look.m, h1, fits_s, List.lookup, inD]
theorem lw_times (lo : Nat) (hi : Option Nat) (how : How) (E : D) (R : Txt) (hlo : lo ≤ 9) (hhi : ∀ h, hi = some h → h ≤ 9) (h2 : R.length ≤ 9999) (h1 : S i_law_inner [.d E, .d (.tup [.str [114, 111, 119], .str [111, 114], .str [116, 105, 109, 101, 115]])] = .ok (.d (.str R)) [.d E, .d (.tup [.str [114, 111, 119], .str [111, 114], .str [116, 105, 109, 101, 115]])]) :
    runF 1 5 (c_law_written S S') [.d (.tup [.str [116, 105, 109, 101, 115], .int lo, encH hi, .str how.t, E])] = .ok (.d (.str (R ++ 123 :: (48 + lo) :: 44 :: (hiT hi ++ (how.m ++ [125]))))) [.d (.tup [.str [116, 105, 109, 101, 115], .int lo, encH hi, .str how.t, E])] := by
  have hlo' : (lo : Int) < 10 := by omega
  cases hi with
  | none => cases how <;> simp -implicitDefEqProofs (disch := omega) [c_law_written, h1, encH, How.t, How.m, hiT, hlo', fits_s, List.lookup]
  | some h =>
    have h3 : (h : Int) < 10 := by have := hhi h rfl; omega
    cases how <;> simp -implicitDefEqProofs (disch := omega) [c_law_written, h1, encH, How.t, How.m, hiT, hlo', h3, fits_s, List.lookup]
end
end HT

namespace HT
open Sk
def LwOk (N d : Nat) : Prop := ∀ (p : Pat), Wf d p → p.nd ≤ 100 → sem codes N i_law_written [.d (enc p)] = .ok (.d (.str (wr p))) [.d (enc p)]
theorem signed_sem (n c : Nat) (sp : Txt) : sem codes (n + 1) i_law_signed [.d (.str [c]), .d (.str sp)] = .ok (.d (.str (sgn sp c))) [.d (.str [c]), .d (.str sp)] := by
  rw [sem_c rfl]; exact signed_ok (sem codes n) (sem' codes n) c sp
theorem inn_alt (p : Pat) : inD (.str p.w) (.tup ([[111, 114]].map D.str)) = some p.isAlt := by
  cases p with
  | look k p => cases k <;> rfl
  | runs o rs => cases o <;> rfl
  | edge o => cases o <;> rfl
  | _ => rfl
theorem inn_cmp (p : Pat) : inD (.str p.w) (.tup ([[114, 111, 119], [111, 114], [116, 105, 109, 101, 115]].map D.str)) = some p.isCmp := by
  cases p with
  | look k p => cases k <;> rfl
  | runs o rs => cases o <;> rfl
  | edge o => cases o <;> rfl
  | _ => rfl
theorem lw_ok : ∀ (d n : Nat), LwOk (n + 2 * d + 4) d
  | d, n => by
    intro p hw hn
    have sub : ∀ e, d = e + 1 → ∀ m, LwOk (n + m + 2 * e + 4) e := fun e he m => lw_ok e (n + m)
    have leaf : ∀ (w : Txt) (E : List D), enc p = .tup (.str w :: E) → (w ≠ [114, 111, 119] ∧ w ≠ [111, 114] ∧ w ≠ [116, 105, 109, 101, 115] ∧ w ≠ [103, 114, 111, 117, 112] ∧ w ≠ [104, 97, 118, 101] ∧ w ≠ [111, 110, 99, 101] ∧ w ≠ [97, 104, 101, 97, 100] ∧ w ≠ [110, 111, 116, 97, 104, 101, 97, 100] ∧ w ≠ [98, 101, 104, 105, 110, 100] ∧ w ≠ [110, 111, 116, 98, 101, 104, 105, 110, 100]) →
        sem codes (n + 2 * d + 3) i_law_leaf_text [.d (enc p)] = .ok (.d (.str (wr p))) [.d (enc p)] → sem codes (n + 2 * d + 4) i_law_written [.d (enc p)] = .ok (.d (.str (wr p))) [.d (enc p)] := by
      intro w E he hw h
      rw [sem_c rfl, he]
      rw [he] at h
      exact lw_leaf (sem codes (n + 2 * d + 3)) (sem' codes (n + 2 * d + 3)) E w _ hw h
    cases p with
    | sign c =>
      refine leaf _ _ rfl (by simp) ?_
      rw [sem_c rfl]
      exact leaf_sign (sem codes (n + 2 * d + 2)) (sem' codes (n + 2 * d + 2)) c (signed_sem (n + 2 * d + 1) c special)
    | any => refine leaf _ _ rfl (by simp) ?_; rw [sem_c rfl]; exact leaf_any (sem codes (n + 2 * d + 2)) (sem' codes (n + 2 * d + 2))
    | runs o rs =>
      simp only [Wf] at hw
      refine leaf _ _ rfl (by cases o <;> simp) ?_
      rw [sem_c rfl]
      exact leaf_runs (sem codes (n + 2 * d + 2)) (sem' codes (n + 2 * d + 2)) o rs (Nat.le_trans hw.2.1 (by decide)) fun r => by
        rw [sem_c rfl]
        exact run_text_ok (sem codes (n + 2 * d + 1)) (sem' codes (n + 2 * d + 1)) (fun c sp => signed_sem (n + 2 * d) c sp) r
    | edge o => refine leaf _ _ rfl (by cases o <;> simp) ?_; rw [sem_c rfl]; exact leaf_edge (sem codes (n + 2 * d + 2)) (sem' codes (n + 2 * d + 2)) o
    | again k =>
      simp only [Wf] at hw
      refine leaf _ _ rfl (by simp) ?_
      rw [sem_c rfl]
      exact leaf_again (sem codes (n + 2 * d + 2)) (sem' codes (n + 2 * d + 2)) k hw.2
    | row ps =>
      simp only [Pat.nd] at hn
      have hmem : ∀ p ∈ ps, ∃ e, d = e + 1 ∧ Wf e p ∧ p.nd ≤ 99 := fun p hp => by
        cases d with
        | zero => simp only [Wf] at hw; rw [hw.2] at hp; cases hp
        | succ e => simp only [Wf] at hw; exact ⟨e, rfl, Wfs.mem hw.2 hp, by have := nd_mem hp; omega⟩
      have hlen : ps.length ≤ 10 := by cases d <;> simp only [Wf] at hw <;> exact hw.1
      have hin : ∀ p ∈ ps, sem codes (n + 2 * d + 3) i_law_inner [.d (enc p), .d (.tup [.str [111, 114]])] = .ok (.d (.str (wrapT p.isAlt (wr p)))) [.d (enc p), .d (.tup [.str [111, 114]])] := fun p hp => by
        obtain ⟨e, rfl, wp, np⟩ := hmem p hp
        have h1 := sub e rfl 0 p wp (by omega)
        rw [show n + 0 + 2 * e + 4 = n + 2 * (e + 1) + 2 by omega] at h1
        rw [sem_c rfl]
        exact inner_ok (sem codes (n + 2 * (e + 1) + 2)) (sem' codes (n + 2 * (e + 1) + 2)) p [[111, 114]] (wr p) (by have := wr_le wp; omega) p.isAlt (inn_alt p) h1
      have hsz : (wrI ps).flatten.length ≤ 100 * nds ps := by
        cases d with
        | zero => simp only [Wf] at hw; rw [hw.2]; simp [wrI]
        | succ e => simp only [Wf] at hw; exact wrI_le hw.2
      rw [sem_c rfl]
      generalize sem codes (n + 2 * d + 3) = S at *
      generalize sem' codes (n + 2 * d + 3) = S' at *
      have hc := compL_map (i := 2) (e := eCall (S i_law_inner) (aCons (eVar 2) (aCons (eTup (aCons (eC (.str [111, 114])) aNil)) aNil))) (f := enc) (g := fun p => .str (wrapT p.isAlt (wr p))) (r := [.d (.tup [.str [114, 111, 119], .tup (ps.map enc)]), .d (.str [114, 111, 119]), .un, .un, .un]) rfl ps [] (by simp; omega) (fun p hp => by
        have h1 := hin p hp
        generalize ps.map enc = E at *
        generalize enc p = ep at *
        simp -implicitDefEqProofs [h1])
      have hs : ((wrI ps).map List.length).sum = (wrI ps).flatten.length := by rw [List.length_flatten]
      have hj := opJoin_ok [] (wrI ps) (by rw [hs]; simp only [List.length_nil]; omega)
      rw [joinT_flat] at hj
      have e3 : ps.map (fun p => D.str (wrapT p.isAlt (wr p))) = (wrI ps).map D.str := by rw [wrI_map, List.map_map]; rfl
      rw [e3] at hc
      have e4 : enc (.row ps) = .tup [.str [114, 111, 119], .tup (ps.map enc)] := by rw [← encs_map]; rfl
      rw [e4]
      exact lw_row S S' _ _ _ _ rfl hc hj
    | alt ps =>
      simp only [Pat.nd] at hn
      cases d with
      | zero => simp [Wf] at hw
      | succ e =>
        simp only [Wf] at hw
        have hl := sub e rfl 1
        rw [show n + 1 + 2 * e + 4 = n + 2 * (e + 1) + 3 by omega] at hl
        rw [sem_c rfl]
        unfold LwOk at hl
        generalize sem codes (n + 2 * (e + 1) + 3) = S at *
        generalize sem' codes (n + 2 * (e + 1) + 3) = S' at *
        have hmem : ∀ p ∈ ps, Wf e p ∧ p.nd ≤ 100 := fun p hp => ⟨Wfs.mem hw.2.2 hp, by have := nd_mem hp; omega⟩
        have hc := compL_map (i := 2) (e := eCall (S i_law_written) (aCons (eVar 2) aNil)) (f := enc) (g := fun p => .str (wr p)) (r := [.d (.tup [.str [111, 114], .tup (ps.map enc)]), .d (.str [111, 114]), .un, .un, .un]) rfl ps [] (by simp; omega) (fun p hp => by
          have h1 := hl p (hmem p hp).1 (hmem p hp).2
          generalize ps.map enc = E at *
          generalize enc p = ep at *
          simp -implicitDefEqProofs [h1])
        have h2 := wrs_le hw.2.2
        have h3 := wrs_len ps
        have hj := opJoin_ok [124] (wrs ps) (by simp only [List.length_singleton]; omega)
        have e3 : ps.map (fun p => D.str (wr p)) = (wrs ps).map D.str := by rw [wrs_map, List.map_map]; rfl
        rw [e3] at hc
        have e4 : enc (.alt ps) = .tup [.str [111, 114], .tup (ps.map enc)] := by rw [← encs_map]; rfl
        rw [e4]
        exact lw_alt S S' _ _ _ _ rfl hc hj
    | times lo hi how p =>
      simp only [Pat.nd] at hn
      cases d with
      | zero => simp [Wf] at hw
      | succ e =>
        simp only [Wf] at hw
        have h1 := sub e rfl 0 p hw.2.2 (by omega)
        rw [show n + 0 + 2 * e + 4 = n + 2 * (e + 1) + 2 by omega] at h1
        have hl := wr_le hw.2.2
        have h2 : sem codes (n + 2 * (e + 1) + 3) i_law_inner [.d (enc p), .d (.tup [.str [114, 111, 119], .str [111, 114], .str [116, 105, 109, 101, 115]])] = .ok (.d (.str (wrapT p.isCmp (wr p)))) [.d (enc p), .d (.tup [.str [114, 111, 119], .str [111, 114], .str [116, 105, 109, 101, 115]])] := by
          rw [sem_c rfl]
          exact inner_ok (sem codes (n + 2 * (e + 1) + 2)) (sem' codes (n + 2 * (e + 1) + 2)) p [[114, 111, 119], [111, 114], [116, 105, 109, 101, 115]] (wr p) (by omega) p.isCmp (inn_cmp p) h1
        rw [sem_c rfl]
        exact lw_times (sem codes (n + 2 * (e + 1) + 3)) (sem' codes (n + 2 * (e + 1) + 3)) lo hi how (enc p) _ hw.1 (fun h eh => (hw.2.1 h eh).2.2) (by have := wrap_le p.isCmp (wr p); omega) h2
    | group k p =>
      simp only [Pat.nd] at hn
      cases d with
      | zero => simp [Wf] at hw
      | succ e =>
        simp only [Wf] at hw
        have h1 := sub e rfl 1 p hw.2.2 (by omega)
        have h2 := wr_le hw.2.2
        rw [show n + 1 + 2 * e + 4 = n + 2 * (e + 1) + 3 by omega] at h1
        rw [sem_c rfl]
        exact lw_group (sem codes (n + 2 * (e + 1) + 3)) (sem' codes (n + 2 * (e + 1) + 3)) _ _ _ (by omega) h1
    | have_ k p q =>
      simp only [Pat.nd] at hn
      cases d with
      | zero => simp [Wf] at hw
      | succ e =>
        simp only [Wf] at hw
        have h1 := sub e rfl 1 p hw.2.2.1 (by omega)
        have h1' := sub e rfl 1 q hw.2.2.2 (by omega)
        have h2 := wr_le hw.2.2.1
        have h2' := wr_le hw.2.2.2
        rw [show n + 1 + 2 * e + 4 = n + 2 * (e + 1) + 3 by omega] at h1 h1'
        rw [sem_c rfl]
        exact lw_have (sem codes (n + 2 * (e + 1) + 3)) (sem' codes (n + 2 * (e + 1) + 3)) k hw.2.1 _ _ _ _ (by omega) (by omega) h1 h1'
    | look lk p =>
      simp only [Pat.nd] at hn
      cases d with
      | zero => simp [Wf] at hw
      | succ e =>
        simp only [Wf] at hw
        have h1 := sub e rfl 1 p hw (by omega)
        have h2 := wr_le hw
        rw [show n + 1 + 2 * e + 4 = n + 2 * (e + 1) + 3 by omega] at h1
        rw [sem_c rfl]
        exact lw_look (sem codes (n + 2 * (e + 1) + 3)) (sem' codes (n + 2 * (e + 1) + 3)) lk _ _ (by omega) h1
end HT

namespace HT
open Sk
namespace Ex
mutual
/-- what is written: wider bounds -/
def Ww : Nat → Pat → Prop
  | _, .sign c => Sg c
  | _, .any => True
  | _, .runs _ rs => 1 ≤ rs.length ∧ rs.length ≤ 10 ∧ ∀ r ∈ rs, Sg r.1 ∧ Sg r.2
  | _, .edge _ => True
  | _, .again n => 0 ≤ n ∧ n ≤ 9
  | d, .row ps => ps.length ≤ 10 ∧ match d with
    | 0 => ps = []
    | d + 1 => Wws d ps
  | d, .alt ps => 2 ≤ ps.length ∧ ps.length ≤ 9 ∧ match d with
    | 0 => False
    | d + 1 => Wws d ps
  | d, .times lo hi _ p => lo ≤ 9 ∧ (∀ h, hi = some h → 0 ≤ h ∧ 0 ≤ h ∧ h ≤ 9) ∧ match d with
    | 0 => False
    | d + 1 => Ww d p
  | d, .group n p => 0 ≤ n ∧ n ≤ 20 ∧ match d with
    | 0 => False
    | d + 1 => Ww d p
  | d, .have_ n p q => 0 ≤ n ∧ n ≤ 9 ∧ match d with
    | 0 => False
    | d + 1 => Ww d p ∧ Ww d q
  | d, .look _ p => match d with
    | 0 => False
    | d + 1 => Ww d p
def Wws : Nat → List Pat → Prop
  | _, [] => True
  | d, p :: ps => Ww d p ∧ Wws d ps
end
mutual
theorem Wf.ww : ∀ {d : Nat} {p : Pat}, Wf d p → Ww d p
  | _, .sign c, h => by simpa [Wf, Ww] using h
  | _, .any, _ => by simp [Ww]
  | _, .runs _ rs, h => by simp only [Wf] at h; simp only [Ww]; exact ⟨h.1, by omega, fun r hr => ⟨(h.2.2 r hr).1, (h.2.2 r hr).2.1⟩⟩
  | _, .edge _, _ => by simp [Ww]
  | _, .again n, h => by simp only [Wf] at h; simp only [Ww]; omega
  | 0, .row ps, h => by simp [Wf] at h; simp [Ww, h.2]
  | d + 1, .row ps, h => by simp only [Wf] at h; simp only [Ww]; exact ⟨h.1, Wfs.ww h.2⟩
  | 0, .alt ps, h => by simp [Wf] at h
  | d + 1, .alt ps, h => by simp only [Wf] at h; simp only [Ww]; exact ⟨h.1, h.2.1, Wfs.ww h.2.2⟩
  | 0, .times _ _ _ p, h => by simp [Wf] at h
  | d + 1, .times _ _ _ p, h => by simp only [Wf] at h; simp only [Ww]; exact ⟨h.1, fun x hx => by have := h.2.1 x hx; omega, Wf.ww h.2.2⟩
  | 0, .group _ p, h => by simp [Wf] at h
  | d + 1, .group _ p, h => by simp only [Wf] at h; simp only [Ww]; exact ⟨by omega, by omega, Wf.ww h.2.2⟩
  | 0, .have_ _ p q, h => by simp [Wf] at h
  | d + 1, .have_ _ p q, h => by simp only [Wf] at h; simp only [Ww]; exact ⟨by omega, by omega, Wf.ww h.2.2.1, Wf.ww h.2.2.2⟩
  | 0, .look _ p, h => by simp [Wf] at h
  | d + 1, .look _ p, h => by simp only [Wf] at h; simp only [Ww]; exact Wf.ww h
theorem Wfs.ww : ∀ {d : Nat} {p : List Pat}, Wfs d p → Wws d p
  | _, [], _ => by simp [Wws]
  | _, p :: ps, h => by simp only [Wfs] at h; simp only [Wws]; exact ⟨Wf.ww h.1, Wfs.ww h.2⟩
end
theorem Wws.mem {d : Nat} : ∀ {ps : List Pat} {p : Pat}, Wws d ps → p ∈ ps → Ww d p
  | [], _, _, h => by cases h
  | q :: ps, p, h, k => by
    simp only [Wws] at h
    rcases List.mem_cons.mp k with rfl | k
    · exact h.1
    · exact Wws.mem h.2 k
theorem Wws.app {d : Nat} : ∀ {ps qs : List Pat}, Wws d ps → Wws d qs → Wws d (ps ++ qs)
  | [], _, _, h => h
  | p :: ps, qs, h, k => by simp only [Wws, List.cons_append] at h ⊢; exact ⟨h.1, Wws.app h.2 k⟩
/-- all signs are of those that texts have -/
def AllS (t : Txt) : Prop := ∀ c ∈ t, Sg c
theorem AllS.app {s t : Txt} (h : AllS s) (k : AllS t) : AllS (s ++ t) := fun c hc => by
  rcases List.mem_append.mp hc with e | e
  · exact h c e
  · exact k c e
theorem AllS.cons {c : Nat} {t : Txt} (h : Sg c) (k : AllS t) : AllS (c :: t) := fun x hx => by
  rcases List.mem_cons.mp hx with rfl | e
  · exact h
  · exact k x e
theorem AllS.nil : AllS [] := fun c hc => by cases hc
theorem sg_dig {k : Nat} (h : k ≤ 9) : Sg (48 + k) := by unfold Sg; omega
theorem sgn_all {sp : Txt} {c : Nat} (h : Sg c) : AllS (sgn sp c) := by
  unfold sgn
  split
  · exact .cons (by decide) (.cons h .nil)
  · exact .cons h .nil
theorem rn_all {r : Nat × Nat} (h1 : Sg r.1) (h2 : Sg r.2) : AllS (rn r) := by
  unfold rn
  refine (sgn_all h1).app ?_
  split
  · exact .nil
  · exact .cons (by decide) (sgn_all h2)
theorem runs_all : ∀ {l : List (Nat × Nat)}, (∀ r ∈ l, Sg r.1 ∧ Sg r.2) → AllS (l.map rn).flatten
  | [], _ => .nil
  | r :: l, h => by
    rw [List.map_cons, List.flatten_cons]
    exact (rn_all (h r List.mem_cons_self).1 (h r List.mem_cons_self).2).app (runs_all fun x hx => h x (List.mem_cons_of_mem _ hx))
theorem wrapT_all {b : Bool} {t : Txt} (h : AllS t) : AllS (wrapT b t) := by
  unfold wrapT
  split
  · exact .cons (by decide) (.cons (by decide) (h.app (.cons (by decide) .nil)))
  · exact h
theorem hiT_all : ∀ {hi : Option Nat}, (∀ h, hi = some h → 0 ≤ h ∧ 0 ≤ h ∧ h ≤ 9) → AllS (hiT hi)
  | none, _ => .nil
  | some h, k => .cons (sg_dig (k h rfl).2.2) .nil
theorem how_all (how : How) : AllS how.m := by cases how <;> intro c hc <;> simp [How.m] at hc <;> subst hc <;> decide
theorem look_sg (k : Look) : Sg k.m := by cases k <;> decide
mutual
theorem wr_all : ∀ {d : Nat} {p : Pat}, Ww d p → AllS (wr p)
  | _, .sign c, h => by simp only [Ww] at h; simp only [wr]; exact sgn_all h
  | _, .any, _ => by simp only [wr]; exact .cons (by decide) .nil
  | _, .runs o rs, h => by
    simp only [Ww] at h; simp only [wr]
    refine AllS.app ?_ ((runs_all h.2.2).app (.cons (by decide) .nil))
    cases o
    · exact .cons (by decide) .nil
    · exact .cons (by decide) (.cons (by decide) .nil)
  | _, .edge o, _ => by simp only [wr]; cases o <;> exact .cons (by decide) .nil
  | _, .again n, h => by simp only [Ww] at h; simp only [wr]; exact .cons (by decide) (.cons (sg_dig h.2) .nil)
  | 0, .row ps, h => by simp [Ww] at h; rw [h.2]; simp only [wr, wrI]; exact .nil
  | d + 1, .row ps, h => by simp only [Ww] at h; simp only [wr]; exact wrI_all h.2
  | 0, .alt ps, h => by simp [Ww] at h
  | d + 1, .alt ps, h => by simp only [Ww] at h; simp only [wr]; exact wrs_all h.2.2
  | 0, .times _ _ _ p, h => by simp [Ww] at h
  | d + 1, .times lo hi how p, h => by
    simp only [Ww] at h; simp only [wr]
    exact (wrapT_all (wr_all h.2.2)).app (.cons (by decide) (.cons (sg_dig h.1) (.cons (by decide) ((hiT_all h.2.1).app ((how_all how).app (.cons (by decide) .nil))))))
  | 0, .group _ p, h => by simp [Ww] at h
  | d + 1, .group _ p, h => by simp only [Ww] at h; simp only [wr]; exact .cons (by decide) ((wr_all h.2.2).app (.cons (by decide) .nil))
  | 0, .have_ _ p q, h => by simp [Ww] at h
  | d + 1, .have_ k p q, h => by
    simp only [Ww] at h; simp only [wr]
    exact .cons (by decide) (.cons (sg_dig h.2.1) ((wr_all h.2.2.1).app (.cons (by decide) ((wr_all h.2.2.2).app (.cons (by decide) .nil)))))
  | 0, .look _ p, h => by simp [Ww] at h
  | d + 1, .look k p, h => by simp only [Ww] at h; simp only [wr]; exact .cons (by decide) (.cons (look_sg k) ((wr_all h).app (.cons (by decide) .nil)))
theorem wrs_all : ∀ {d : Nat} {ps : List Pat}, Wws d ps → AllS (joinT [124] (wrs ps))
  | _, [], _ => by simp only [wrs, joinT]; exact .nil
  | _, [p], h => by simp only [Wws] at h; simp only [wrs, joinT]; exact wr_all h.1
  | d, p :: q :: ps, h => by
    simp only [Wws] at h
    have h2 : AllS (joinT [124] (wrs (q :: ps))) := wrs_all (d := d) (by simp only [Wws]; exact h.2)
    show AllS (wr p ++ ([124] ++ joinT [124] (wrs (q :: ps))))
    exact (wr_all h.1).app (.cons (by decide) h2)
theorem wrI_all : ∀ {d : Nat} {ps : List Pat}, Wws d ps → AllS (wrI ps).flatten
  | _, [], _ => by simp only [wrI]; exact .nil
  | _, p :: ps, h => by
    simp only [Wws] at h
    simp only [wrI, List.flatten_cons]
    exact (wrapT_all (wr_all h.1)).app (wrI_all h.2)
end
mutual
theorem wr_leW : ∀ {d : Nat} {p : Pat}, Ww d p → (wr p).length + 4 ≤ 100 * p.nd
  | d, .row ps, h => by
    simp only [wr, Pat.nd]
    cases d with
    | zero => simp [Ww] at h; rw [h.2]; simp [wrI]; omega
    | succ d => simp only [Ww] at h; have := wrI_leW h.2; omega
  | d, .alt ps, h => by
    simp only [wr, Pat.nd]
    cases d with
    | zero => simp [Ww] at h
    | succ d =>
      simp only [Ww] at h
      have h1 := wrs_leW h.2.2
      have h2 := joinT_le [124] (wrs ps)
      have h3 := wrs_len ps
      simp only [List.length_singleton] at h2
      omega
  | d, .times lo hi how p, h => by
    simp only [wr, Pat.nd]
    cases d with
    | zero => simp [Ww] at h
    | succ d =>
      simp only [Ww] at h
      have h1 := wr_leW h.2.2
      have h2 := wrap_le p.isCmp (wr p)
      have h3 : (hiT hi).length ≤ 1 := by cases hi <;> simp [hiT]
      have h4 : how.m.length ≤ 1 := by cases how <;> simp [How.m]
      simp; omega
  | d, .group k p, h => by
    simp only [wr, Pat.nd]
    cases d with
    | zero => simp [Ww] at h
    | succ d =>
      simp only [Ww] at h
      have h1 := wr_leW h.2.2
      simp; omega
  | d, .have_ k p q, h => by
    simp only [wr, Pat.nd]
    cases d with
    | zero => simp [Ww] at h
    | succ d =>
      simp only [Ww] at h
      have h1 := wr_leW h.2.2.1
      have h2 := wr_leW h.2.2.2
      simp; omega
  | d, .look k p, h => by
    simp only [wr, Pat.nd]
    cases d with
    | zero => simp [Ww] at h
    | succ d =>
      simp only [Ww] at h
      have h1 := wr_leW h
      simp; omega
  | d, .sign c, h => by have := sgn_le special c; simp only [wr, Pat.nd]; omega
  | d, .any, h => by simp [wr, Pat.nd]
  | d, .runs o rs, h => by
    simp only [Ww] at h
    have := runs_le rs
    simp only [wr, Pat.nd]
    cases o <;> simp <;> simp at this <;> omega
  | d, .edge e, h => by simp [wr, Pat.nd]
  | d, .again n, h => by simp [wr, Pat.nd]
theorem wrs_leW : ∀ {d : Nat} {ps : List Pat}, Wws d ps → ((wrs ps).map List.length).sum + 4 * ps.length ≤ 100 * nds ps
  | _, [], _ => by simp [wrs, nds]
  | d, p :: ps, h => by
    simp only [Wws] at h
    have h1 := wr_leW h.1
    have h2 := wrs_leW h.2
    simp only [wrs, nds, List.map_cons, List.sum_cons, List.length_cons]
    omega
theorem wrI_leW : ∀ {d : Nat} {ps : List Pat}, Wws d ps → (wrI ps).flatten.length ≤ 100 * nds ps
  | _, [], _ => by simp [wrI]
  | d, p :: ps, h => by
    simp only [Wws] at h
    have h1 := wr_leW h.1
    have h2 := wrI_leW h.2
    have h3 := wrap_le p.isAlt (wr p)
    simp only [wrI, nds, List.flatten_cons, List.length_append]
    omega
end
end Ex
end HT

namespace HT
open Sk
namespace Ex
def LwOkW (N d : Nat) : Prop := ∀ (p : Pat), Ww d p → p.nd ≤ 100 → sem codes N i_law_written [.d (enc p)] = .ok (.d (.str (wr p))) [.d (enc p)]
theorem lw_okW : ∀ (d n : Nat), LwOkW (n + 2 * d + 4) d
  | d, n => by
    intro p hw hn
    have sub : ∀ e, d = e + 1 → ∀ m, LwOkW (n + m + 2 * e + 4) e := fun e he m => lw_okW e (n + m)
    have leaf : ∀ (w : Txt) (E : List D), enc p = .tup (.str w :: E) → (w ≠ [114, 111, 119] ∧ w ≠ [111, 114] ∧ w ≠ [116, 105, 109, 101, 115] ∧ w ≠ [103, 114, 111, 117, 112] ∧ w ≠ [104, 97, 118, 101] ∧ w ≠ [111, 110, 99, 101] ∧ w ≠ [97, 104, 101, 97, 100] ∧ w ≠ [110, 111, 116, 97, 104, 101, 97, 100] ∧ w ≠ [98, 101, 104, 105, 110, 100] ∧ w ≠ [110, 111, 116, 98, 101, 104, 105, 110, 100]) →
        sem codes (n + 2 * d + 3) i_law_leaf_text [.d (enc p)] = .ok (.d (.str (wr p))) [.d (enc p)] → sem codes (n + 2 * d + 4) i_law_written [.d (enc p)] = .ok (.d (.str (wr p))) [.d (enc p)] := by
      intro w E he hw h
      rw [sem_c rfl, he]
      rw [he] at h
      exact lw_leaf (sem codes (n + 2 * d + 3)) (sem' codes (n + 2 * d + 3)) E w _ hw h
    cases p with
    | sign c =>
      refine leaf _ _ rfl (by simp) ?_
      rw [sem_c rfl]
      exact leaf_sign (sem codes (n + 2 * d + 2)) (sem' codes (n + 2 * d + 2)) c (signed_sem (n + 2 * d + 1) c special)
    | any => refine leaf _ _ rfl (by simp) ?_; rw [sem_c rfl]; exact leaf_any (sem codes (n + 2 * d + 2)) (sem' codes (n + 2 * d + 2))
    | runs o rs =>
      simp only [Ww] at hw
      refine leaf _ _ rfl (by cases o <;> simp) ?_
      rw [sem_c rfl]
      exact leaf_runs (sem codes (n + 2 * d + 2)) (sem' codes (n + 2 * d + 2)) o rs (Nat.le_trans hw.2.1 (by decide)) fun r => by
        rw [sem_c rfl]
        exact run_text_ok (sem codes (n + 2 * d + 1)) (sem' codes (n + 2 * d + 1)) (fun c sp => signed_sem (n + 2 * d) c sp) r
    | edge o => refine leaf _ _ rfl (by cases o <;> simp) ?_; rw [sem_c rfl]; exact leaf_edge (sem codes (n + 2 * d + 2)) (sem' codes (n + 2 * d + 2)) o
    | again k =>
      simp only [Ww] at hw
      refine leaf _ _ rfl (by simp) ?_
      rw [sem_c rfl]
      exact leaf_again (sem codes (n + 2 * d + 2)) (sem' codes (n + 2 * d + 2)) k hw.2
    | row ps =>
      simp only [Pat.nd] at hn
      have hmem : ∀ p ∈ ps, ∃ e, d = e + 1 ∧ Ww e p ∧ p.nd ≤ 99 := fun p hp => by
        cases d with
        | zero => simp only [Ww] at hw; rw [hw.2] at hp; cases hp
        | succ e => simp only [Ww] at hw; exact ⟨e, rfl, Wws.mem hw.2 hp, by have := nd_mem hp; omega⟩
      have hlen : ps.length ≤ 10 := by cases d <;> simp only [Ww] at hw <;> exact hw.1
      have hin : ∀ p ∈ ps, sem codes (n + 2 * d + 3) i_law_inner [.d (enc p), .d (.tup [.str [111, 114]])] = .ok (.d (.str (wrapT p.isAlt (wr p)))) [.d (enc p), .d (.tup [.str [111, 114]])] := fun p hp => by
        obtain ⟨e, rfl, wp, np⟩ := hmem p hp
        have h1 := sub e rfl 0 p wp (by omega)
        rw [show n + 0 + 2 * e + 4 = n + 2 * (e + 1) + 2 by omega] at h1
        rw [sem_c rfl]
        exact inner_ok (sem codes (n + 2 * (e + 1) + 2)) (sem' codes (n + 2 * (e + 1) + 2)) p [[111, 114]] (wr p) (by have := wr_leW wp; omega) p.isAlt (inn_alt p) h1
      have hsz : (wrI ps).flatten.length ≤ 100 * nds ps := by
        cases d with
        | zero => simp only [Ww] at hw; rw [hw.2]; simp [wrI]
        | succ e => simp only [Ww] at hw; exact wrI_leW hw.2
      rw [sem_c rfl]
      generalize sem codes (n + 2 * d + 3) = S at *
      generalize sem' codes (n + 2 * d + 3) = S' at *
      have hc := compL_map (i := 2) (e := eCall (S i_law_inner) (aCons (eVar 2) (aCons (eTup (aCons (eC (.str [111, 114])) aNil)) aNil))) (f := enc) (g := fun p => .str (wrapT p.isAlt (wr p))) (r := [.d (.tup [.str [114, 111, 119], .tup (ps.map enc)]), .d (.str [114, 111, 119]), .un, .un, .un]) rfl ps [] (by simp; omega) (fun p hp => by
        have h1 := hin p hp
        generalize ps.map enc = E at *
        generalize enc p = ep at *
        simp -implicitDefEqProofs [h1])
      have hs : ((wrI ps).map List.length).sum = (wrI ps).flatten.length := by rw [List.length_flatten]
      have hj := opJoin_ok [] (wrI ps) (by rw [hs]; simp only [List.length_nil]; omega)
      rw [joinT_flat] at hj
      have e3 : ps.map (fun p => D.str (wrapT p.isAlt (wr p))) = (wrI ps).map D.str := by rw [wrI_map, List.map_map]; rfl
      rw [e3] at hc
      have e4 : enc (.row ps) = .tup [.str [114, 111, 119], .tup (ps.map enc)] := by rw [← encs_map]; rfl
      rw [e4]
      exact lw_row S S' _ _ _ _ rfl hc hj
    | alt ps =>
      simp only [Pat.nd] at hn
      cases d with
      | zero => simp [Ww] at hw
      | succ e =>
        simp only [Ww] at hw
        have hl := sub e rfl 1
        rw [show n + 1 + 2 * e + 4 = n + 2 * (e + 1) + 3 by omega] at hl
        rw [sem_c rfl]
        unfold LwOkW at hl
        generalize sem codes (n + 2 * (e + 1) + 3) = S at *
        generalize sem' codes (n + 2 * (e + 1) + 3) = S' at *
        have hmem : ∀ p ∈ ps, Ww e p ∧ p.nd ≤ 100 := fun p hp => ⟨Wws.mem hw.2.2 hp, by have := nd_mem hp; omega⟩
        have hc := compL_map (i := 2) (e := eCall (S i_law_written) (aCons (eVar 2) aNil)) (f := enc) (g := fun p => .str (wr p)) (r := [.d (.tup [.str [111, 114], .tup (ps.map enc)]), .d (.str [111, 114]), .un, .un, .un]) rfl ps [] (by simp; omega) (fun p hp => by
          have h1 := hl p (hmem p hp).1 (hmem p hp).2
          generalize ps.map enc = E at *
          generalize enc p = ep at *
          simp -implicitDefEqProofs [h1])
        have h2 := wrs_leW hw.2.2
        have h3 := wrs_len ps
        have hj := opJoin_ok [124] (wrs ps) (by simp only [List.length_singleton]; omega)
        have e3 : ps.map (fun p => D.str (wr p)) = (wrs ps).map D.str := by rw [wrs_map, List.map_map]; rfl
        rw [e3] at hc
        have e4 : enc (.alt ps) = .tup [.str [111, 114], .tup (ps.map enc)] := by rw [← encs_map]; rfl
        rw [e4]
        exact lw_alt S S' _ _ _ _ rfl hc hj
    | times lo hi how p =>
      simp only [Pat.nd] at hn
      cases d with
      | zero => simp [Ww] at hw
      | succ e =>
        simp only [Ww] at hw
        have h1 := sub e rfl 0 p hw.2.2 (by omega)
        rw [show n + 0 + 2 * e + 4 = n + 2 * (e + 1) + 2 by omega] at h1
        have hl := wr_leW hw.2.2
        have h2 : sem codes (n + 2 * (e + 1) + 3) i_law_inner [.d (enc p), .d (.tup [.str [114, 111, 119], .str [111, 114], .str [116, 105, 109, 101, 115]])] = .ok (.d (.str (wrapT p.isCmp (wr p)))) [.d (enc p), .d (.tup [.str [114, 111, 119], .str [111, 114], .str [116, 105, 109, 101, 115]])] := by
          rw [sem_c rfl]
          exact inner_ok (sem codes (n + 2 * (e + 1) + 2)) (sem' codes (n + 2 * (e + 1) + 2)) p [[114, 111, 119], [111, 114], [116, 105, 109, 101, 115]] (wr p) (by omega) p.isCmp (inn_cmp p) h1
        rw [sem_c rfl]
        exact lw_times (sem codes (n + 2 * (e + 1) + 3)) (sem' codes (n + 2 * (e + 1) + 3)) lo hi how (enc p) _ hw.1 (fun h eh => (hw.2.1 h eh).2.2) (by have := wrap_le p.isCmp (wr p); omega) h2
    | group k p =>
      simp only [Pat.nd] at hn
      cases d with
      | zero => simp [Ww] at hw
      | succ e =>
        simp only [Ww] at hw
        have h1 := sub e rfl 1 p hw.2.2 (by omega)
        have h2 := wr_leW hw.2.2
        rw [show n + 1 + 2 * e + 4 = n + 2 * (e + 1) + 3 by omega] at h1
        rw [sem_c rfl]
        exact lw_group (sem codes (n + 2 * (e + 1) + 3)) (sem' codes (n + 2 * (e + 1) + 3)) _ _ _ (by omega) h1
    | have_ k p q =>
      simp only [Pat.nd] at hn
      cases d with
      | zero => simp [Ww] at hw
      | succ e =>
        simp only [Ww] at hw
        have h1 := sub e rfl 1 p hw.2.2.1 (by omega)
        have h1' := sub e rfl 1 q hw.2.2.2 (by omega)
        have h2 := wr_leW hw.2.2.1
        have h2' := wr_leW hw.2.2.2
        rw [show n + 1 + 2 * e + 4 = n + 2 * (e + 1) + 3 by omega] at h1 h1'
        rw [sem_c rfl]
        exact lw_have (sem codes (n + 2 * (e + 1) + 3)) (sem' codes (n + 2 * (e + 1) + 3)) k hw.2.1 _ _ _ _ (by omega) (by omega) h1 h1'
    | look lk p =>
      simp only [Pat.nd] at hn
      cases d with
      | zero => simp [Ww] at hw
      | succ e =>
        simp only [Ww] at hw
        have h1 := sub e rfl 1 p hw (by omega)
        have h2 := wr_leW hw
        rw [show n + 1 + 2 * e + 4 = n + 2 * (e + 1) + 3 by omega] at h1
        rw [sem_c rfl]
        exact lw_look (sem codes (n + 2 * (e + 1) + 3)) (sem' codes (n + 2 * (e + 1) + 3)) lk _ _ (by omega) h1
end Ex
end HT

namespace HT
open Sk
namespace Ex
section
variable {a b c : Nat}
theorem nested_w (n : Nat) (ha : Sg a) (xs : List Int) (m : Nat) (hm1 : 1 ≤ m) (hm : m ≤ 12) : ∃ (p : Pat) (xs' : List Int), sem codes (n + 2) i_law_nested [.own true (bxs xs), .d (.lst (L3 a b c)), .d (.int m)] = .ok (.d (enc p)) [.own true (bxs xs'), .d (.lst (L3 a b c)), .d (.int m)] ∧ Wf 11 p ∧ num 0 p = some 0 ∧ Bd 0 p ∧ p.nd ≤ 60 := by
  rw [sem_c rfl]
  have htk := fun m h1 h2 xs => take_ok n m h1 h2 xs
  generalize sem codes (n + 1) = S at *
  generalize sem' codes (n + 1) = S' at *
  have wfm : ∀ (k : Nat) (p : Pat), Wf k p → ∀ d, Wf (k + d) p := fun k p h d => by
    induction d with
    | zero => exact h
    | succ d ih => exact ih.succ
  obtain ⟨r', e, ⟨xs2, p, t, u, rfl, -, -, wp, gp, bp, np⟩⟩ := for_nx (i := 4) (b := l_law_nested_1 S S') (xs := upTo 0 (m - 1)) (r := [.own true (bxs xs), .d (.lst (L3 a b c)), .d (.int m), .d (enc (.sign a)), .un, .un])
    (fun j r => ∃ (xs : List Int) (p : Pat) (t u : A), r = [.own true (bxs xs), .d (.lst (L3 a b c)), .d (.int m), .d (enc p), t, u] ∧ freeA t = true ∧ freeA u = true ∧ Wf j p ∧ num 0 p = some 0 ∧ Bd 0 p ∧ p.nd = j + 1)
    ⟨xs, .sign a, .un, .un, rfl, rfl, rfl, by simp -implicitDefEqProofs [Wf, ha], rfl, by simp -implicitDefEqProofs [Bd], rfl⟩ (by
      rintro j x r hx ⟨xs, p, t, u, rfl, ht, hu, wp, gp, bp, np⟩
      refine ⟨ht, by simp, ?_⟩
      obtain ⟨v, xs1, h1, h10, h14⟩ := htk 4 (by decide) (by decide) xs
      obtain ⟨v2, xs2, h2, h20, h24⟩ := htk 10 (by decide) (by decide) xs1
      obtain ⟨v3, xs3, h3, h30, h34⟩ := htk 9 (by decide) (by decide) xs1
      have : v = 0 ∨ v = 1 ∨ v = 2 ∨ v = 3 := by omega
      rcases this with rfl | rfl | rfl | rfl
      · exact ⟨_, by simp -implicitDefEqProofs [l_law_nested_1, h1, ht, hu]; rfl, xs1, .look .once p, .d x, .d (.int 0), by simp -implicitDefEqProofs [enc, Look.t], rfl, rfl, by simp only [Wf]; exact wp, by simpa [num] using gp, by simpa [Bd] using bp, by simp -implicitDefEqProofs [Pat.nd, np]⟩
      · obtain ⟨w, rfl⟩ : ∃ w : Nat, v2 = w := ⟨v2.toNat, by omega⟩
        exact ⟨_, by simp -implicitDefEqProofs [l_law_nested_1, h1, h2, ht, hu]; rfl, xs2, .times w none .little p, .d x, .d (.int 1), by simp -implicitDefEqProofs [enc, How.t, encH], rfl, rfl, by simp only [Wf]; exact ⟨by omega, by simp, wp⟩, by simpa [num] using gp, by simpa [Bd] using bp, by simp -implicitDefEqProofs [Pat.nd, np]⟩
      · obtain ⟨w, rfl⟩ : ∃ w : Nat, v3 = w := ⟨v3.toNat, by omega⟩
        exact ⟨_, by simp -implicitDefEqProofs [l_law_nested_1, h1, h3, ht, hu]; rfl, xs3, .times 0 (some (1 + w)) .much p, .d x, .d (.int 2), by simp -implicitDefEqProofs [enc, How.t, encH], rfl, rfl, by simp only [Wf]; exact ⟨by omega, by simp; omega, wp⟩, by simpa [num] using gp, by simpa [Bd] using bp, by simp -implicitDefEqProofs [Pat.nd, np]⟩
      · exact ⟨_, by simp -implicitDefEqProofs [l_law_nested_1, h1, ht, hu]; rfl, xs1, .look .notbehind p, .d x, .d (.int 3), by simp -implicitDefEqProofs [enc, Look.t], rfl, rfl, by simp only [Wf]; exact wp, by simpa [num] using gp, by simpa [Bd] using bp, by simp -implicitDefEqProofs [Pat.nd, np]⟩)
  rw [len_upTo] at wp np
  have w8 := wfm _ p wp (11 - (m - 1))
  rw [show m - 1 + (11 - (m - 1)) = 11 by omega] at w8
  refine ⟨p, xs2, ?_, w8, gp, bp, by omega⟩
  have hr : okR ((m : Int) - 1) := okR_of (by omega) (by omega)
  have hn : ((m : Int) - 1).toNat = m - 1 := by omega
  simp -implicitDefEqProofs [enc] at e
  simp -implicitDefEqProofs [c_law_nested, hr, hn, e]

theorem wide_w (n : Nat) (ha : Sg a) (hb : Sg b) (hc : Sg c) (xs : List Int) (m q : Nat) (hm1 : 2 ≤ m) (hm : m ≤ 9) (hq1 : 2 ≤ q) (hq : q ≤ 9) : ∃ (p : Pat) (xs' : List Int), sem codes (n + 2) i_law_wide [.own true (bxs xs), .d (.lst (L3 a b c)), .d (.int m), .d (.int q)] = .ok (.d (enc p)) [.own true (bxs xs'), .d (.lst (L3 a b c)), .d (.int m), .d (.int q)] ∧ Wf 2 p ∧ num 0 p = some 0 ∧ Bd 0 p ∧ p.nd = 1 + m * (q + 1) := by
  rw [sem_c rfl]
  have hd := fun xs => drawsign_ok n ha hb hc xs
  generalize sem codes (n + 1) = S at *
  generalize sem' codes (n + 1) = S' at *
  have hrm : okR (m : Int) := okR_of (by omega) (by omega)
  have hrq : okR (q : Int) := okR_of (by omega) (by omega)
  have inner : ∀ (xs : List Int) (k : D) (rows : List D) (u : A), freeA u = true → ∃ (xs' : List Int) (ps : List Pat) (u' : A), forL 7 (l_law_wide_1 S S') (upTo 0 q) [.own true (bxs xs), .d (.lst (L3 a b c)), .d (.int m), .d (.int q), .own false rows, .d k, .own false [], u] = .nx [.own true (bxs xs'), .d (.lst (L3 a b c)), .d (.int m), .d (.int q), .own false rows, .d k, .own false (encs ps), u'] ∧ freeA u' = true ∧ ps.length = q ∧ Wfs 0 ps ∧ nums 0 ps = some 0 ∧ Bds 0 ps ∧ nds ps = q := by
    intro xs k rows u hu
    obtain ⟨r', e, ⟨xs2, ps, t, rfl, h1, h2, h3, h4, h5, h6⟩⟩ := for_nx (i := 7) (b := l_law_wide_1 S S') (xs := upTo 0 q) (r := [.own true (bxs xs), .d (.lst (L3 a b c)), .d (.int m), .d (.int q), .own false rows, .d k, .own false [], u])
      (fun j r => ∃ (xs : List Int) (ps : List Pat) (t : A), r = [.own true (bxs xs), .d (.lst (L3 a b c)), .d (.int m), .d (.int q), .own false rows, .d k, .own false (encs ps), t] ∧ freeA t = true ∧ ps.length = j ∧ Wfs 0 ps ∧ nums 0 ps = some 0 ∧ Bds 0 ps ∧ nds ps = j)
      ⟨xs, [], u, rfl, hu, rfl, by simp -implicitDefEqProofs [Wfs], rfl, by simp -implicitDefEqProofs [Bds], rfl⟩ (by
        rintro j x r hx ⟨xs, ps, t, rfl, ht, hl, wp, gp, bp, np⟩
        have hj := (get_upTo hx).2
        have hl' : Fit1 ps.length := fit1_of (by omega)
        refine ⟨ht, by simp, ?_⟩
        obtain ⟨v, xs1, s, h1, e1, g1⟩ := hd xs
        exact ⟨_, by simp -implicitDefEqProofs [l_law_wide_1, h1, e1, ht, encs_len, hl']; rfl, xs1, ps ++ [.sign s], .d x, by simp -implicitDefEqProofs [encs_app, encs, enc], rfl, by simp -implicitDefEqProofs [hl], wp.app (by simp -implicitDefEqProofs [Wfs, Wf, g1]), by simp -implicitDefEqProofs [nums_app, gp, nums, num], bp.app (by simp -implicitDefEqProofs [Bds, Bd]), by simp -implicitDefEqProofs [nds_app, np, nds, Pat.nd]⟩)
    rw [len_upTo] at h2 h6
    exact ⟨xs2, ps, t, e, h1, h2, h3, h4, h5, h6⟩
  obtain ⟨r', e, ⟨xs2, ps, t, u, w, rfl, -, -, -, hl, wp, gp, bp, np⟩⟩ := for_nx (i := 5) (b := l_law_wide_2 S S') (xs := upTo 0 m) (r := [.own true (bxs xs), .d (.lst (L3 a b c)), .d (.int m), .d (.int q), .own false [], .un, .un, .un])
    (fun j r => ∃ (xs : List Int) (ps : List Pat) (t u w : A), r = [.own true (bxs xs), .d (.lst (L3 a b c)), .d (.int m), .d (.int q), .own false (encs ps), t, u, w] ∧ freeA t = true ∧ freeA u = true ∧ freeA w = true ∧ ps.length = j ∧ Wfs 1 ps ∧ nums 0 ps = some 0 ∧ Bds 0 ps ∧ nds ps = j * (q + 1))
    ⟨xs, [], .un, .un, .un, rfl, rfl, rfl, rfl, rfl, by simp -implicitDefEqProofs [Wfs], rfl, by simp -implicitDefEqProofs [Bds], by simp -implicitDefEqProofs [nds]⟩ (by
      rintro j x r hx ⟨xs, ps, t, u, w, rfl, ht, hu, hw, hl, wp, gp, bp, np⟩
      have hj := (get_upTo hx).2
      have hl' : Fit1 ps.length := fit1_of (by omega)
      refine ⟨ht, by simp, ?_⟩
      obtain ⟨xs1, qs, w', e1, hw', lq, wq, gq, bq, nq⟩ := inner xs x (encs ps) w hw
      have hf : Fits qs.length := fits_of (by omega)
      exact ⟨_, by simp -implicitDefEqProofs [l_law_wide_2, ht, hu, hrq, e1, encs_len, hl']; rfl, xs1, ps ++ [.alt qs], .d x, .own false (encs qs), w', by simp -implicitDefEqProofs [encs_app, encs, enc], rfl, rfl, hw', by simp -implicitDefEqProofs [hl], wp.app (by simp only [Wfs, Wf]; exact ⟨⟨by omega, by omega, wq⟩, trivial⟩), by simp -implicitDefEqProofs [nums_app, gp, nums, num, gq], bp.app (by simp -implicitDefEqProofs [Bds, Bd, bq]), by simp -implicitDefEqProofs [nds_app, np, nds, Pat.nd, nq, Nat.add_mul]⟩)
  rw [len_upTo] at hl np
  refine ⟨.row ps, xs2, ?_, by simp only [Wf]; exact ⟨by omega, wp⟩, by simp -implicitDefEqProofs [num, gp], by simp -implicitDefEqProofs [Bd, bp], by simp -implicitDefEqProofs [Pat.nd, np]; omega⟩
  simp -implicitDefEqProofs [c_law_wide, hrm, e, enc]

theorem beyond_ok (n : Nat) (ha : Sg a) (hb : Sg b) (hc : Sg c) (xs : List Int) : ∃ (p : Pat) (xs' : List Int), sem codes (n + 4) i_law_beyond [.own true (bxs xs), .d (.lst (L3 a b c))] = .ok (.d (enc p)) [.own true (bxs xs'), .d (.lst (L3 a b c))] ∧ Ww 11 p ∧ p.nd ≤ 100 := by
  rw [sem_c rfl]
  have htk := fun m h1 h2 xs => take_ok (n + 2) m h1 h2 xs
  have hne := fun xs m h1 h2 => nested_w (b := b) (c := c) (n + 1) ha xs m h1 h2
  have hwi := fun xs m q h1 h2 h3 h4 => wide_w (n + 1) ha hb hc xs m q h1 h2 h3 h4
  rw [show n + 2 + 1 = n + 3 from rfl] at htk
  rw [show n + 1 + 2 = n + 3 from rfl] at hne hwi
  generalize sem codes (n + 3) = S at *
  generalize sem' codes (n + 3) = S' at *
  obtain ⟨v, xs1, h, h0, h5⟩ := htk 5 (by decide) (by decide) xs
  have hv : v = 0 ∨ v = 1 ∨ v = 2 ∨ v = 3 ∨ v = 4 := by omega
  rcases hv with rfl | rfl | rfl | rfl | rfl
  · obtain ⟨u, xs2, h2, h20, h24⟩ := htk 4 (by decide) (by decide) xs1
    obtain ⟨m, rfl⟩ : ∃ m : Nat, u = m := ⟨u.toNat, by omega⟩
    obtain ⟨p, xs3, h3, wp, gp, bp, np⟩ := hne xs2 (7 + m) (by omega) (by omega)
    have h3 : S i_law_nested [.own true (bxs xs2), .d (.lst (L3 a b c)), .d (.int (7 + (m : Int)))] = .ok (.d (enc p)) [.own true (bxs xs3), .d (.lst (L3 a b c)), .d (.int (7 + (m : Int)))] := h3
    exact ⟨p, xs3, by simp -implicitDefEqProofs [c_law_beyond, h, h2, h3], Wf.ww wp, by omega⟩
  · obtain ⟨u, xs2, h2, h20, h24⟩ := htk 4 (by decide) (by decide) xs1
    obtain ⟨m, rfl⟩ : ∃ m : Nat, u = m := ⟨u.toNat, by omega⟩
    obtain ⟨w, xs3, h3, h30, h34⟩ := htk 4 (by decide) (by decide) xs2
    obtain ⟨q, rfl⟩ : ∃ m : Nat, w = m := ⟨w.toNat, by omega⟩
    obtain ⟨p, xs4, h4, wp, gp, bp, np⟩ := hwi xs3 (6 + m) (6 + q) (by omega) (by omega) (by omega) (by omega)
    have h4 : S i_law_wide [.own true (bxs xs3), .d (.lst (L3 a b c)), .d (.int (6 + (m : Int))), .d (.int (6 + (q : Int)))] = .ok (.d (enc p)) [.own true (bxs xs4), .d (.lst (L3 a b c)), .d (.int (6 + (m : Int))), .d (.int (6 + (q : Int)))] := h4
    have np2 : p.nd ≤ 100 := by
      have h1 : (6 + m) * (6 + q + 1) ≤ 9 * 10 := Nat.mul_le_mul (by omega) (by omega)
      omega
    exact ⟨p, xs4, by simp -implicitDefEqProofs [c_law_beyond, h, h2, h3, h4], Wf.ww (wp.mono (show 2 ≤ 11 by omega)), np2⟩
  · obtain ⟨u, xs2, h2, h20, h23⟩ := htk 3 (by decide) (by decide) xs1
    have hu : u = 0 ∨ u = 1 ∨ u = 2 := by omega
    rcases hu with rfl | rfl | rfl
    · exact ⟨.row ((List.range' 0 8).map fun k => .group (k + 1) .any), xs2, by simp -implicitDefEqProofs [c_law_beyond, h, h2, okR, upTo, List.range_succ, List.range', enc, encs], by simp -implicitDefEqProofs [List.range', Ww, Wws], by simp -implicitDefEqProofs [List.range', Pat.nd, nds]⟩
    · exact ⟨.row ((List.range' 0 9).map fun k => .group (k + 1) .any), xs2, by simp -implicitDefEqProofs [c_law_beyond, h, h2, okR, upTo, List.range_succ, List.range', enc, encs], by simp -implicitDefEqProofs [List.range', Ww, Wws], by simp -implicitDefEqProofs [List.range', Pat.nd, nds]⟩
    · exact ⟨.row ((List.range' 0 10).map fun k => .group (k + 1) .any), xs2, by simp -implicitDefEqProofs [c_law_beyond, h, h2, okR, upTo, List.range_succ, List.range', enc, encs], by simp -implicitDefEqProofs [List.range', Ww, Wws], by simp -implicitDefEqProofs [List.range', Pat.nd, nds]⟩
  · obtain ⟨u, xs2, h2, h20, h23⟩ := htk 3 (by decide) (by decide) xs1
    have hu : u = 0 ∨ u = 1 ∨ u = 2 := by omega
    rcases hu with rfl | rfl | rfl
    · exact ⟨.runs false (List.replicate 7 (a, a)), xs2, by simp -implicitDefEqProofs [c_law_beyond, h, h2, okR, upTo, List.range_succ, enc, encR, List.replicate], by simp -implicitDefEqProofs [Ww, ha], by simp -implicitDefEqProofs [Pat.nd]⟩
    · exact ⟨.runs false (List.replicate 8 (a, a)), xs2, by simp -implicitDefEqProofs [c_law_beyond, h, h2, okR, upTo, List.range_succ, enc, encR, List.replicate], by simp -implicitDefEqProofs [Ww, ha], by simp -implicitDefEqProofs [Pat.nd]⟩
    · exact ⟨.runs false (List.replicate 9 (a, a)), xs2, by simp -implicitDefEqProofs [c_law_beyond, h, h2, okR, upTo, List.range_succ, enc, encR, List.replicate], by simp -implicitDefEqProofs [Ww, ha], by simp -implicitDefEqProofs [Pat.nd]⟩
  · obtain ⟨u, xs2, h2, h20, h24⟩ := htk 4 (by decide) (by decide) xs1
    obtain ⟨k, rfl⟩ : ∃ m : Nat, u = m := ⟨u.toNat, by omega⟩
    obtain ⟨w, xs3, h3, h30, h34⟩ := htk 4 (by decide) (by decide) xs2
    obtain ⟨lo, rfl⟩ : ∃ m : Nat, w = m := ⟨w.toNat, by omega⟩
    obtain ⟨x, xs4, h4, h40, h44⟩ := htk 4 (by decide) (by decide) xs3
    obtain ⟨hi, rfl⟩ : ∃ m : Nat, x = m := ⟨x.toNat, by omega⟩
    refine ⟨.times lo (some hi) .little (.group 1 (.again k)), xs4, by simp -implicitDefEqProofs [c_law_beyond, h, h2, h3, h4, enc, encH, How.t], ?_, by simp -implicitDefEqProofs [Pat.nd]⟩
    simp only [Ww]
    exact ⟨by omega, fun h eh => by cases eh; omega, by omega, by omega, by omega, by omega⟩
end
end Ex
end HT

namespace HT
open Sk
namespace Ex
section
variable {a b c : Nat}
theorem item_all {s : Txt} {v : Int} (hs : AllS s) (h0 : 0 ≤ v) (h1 : v < s.length) : ∃ c, itemK s v = some c ∧ Sg c := by
  obtain ⟨k, rfl⟩ : ∃ k : Nat, v = k := ⟨v.toNat, by omega⟩
  have hk : k < s.length := by omega
  exact ⟨s[k], item_nat s k hk, hs _ (List.getElem_mem hk)⟩
theorem all22 : AllS [92, 46, 91, 93, 40, 41, 123, 125, 60, 62, 124, 94, 36, 38, 126, 58, 44, 45, 33, 63, 49, 57] := by unfold AllS; decide
theorem all21 : AllS [92, 46, 91, 93, 40, 41, 123, 125, 60, 62, 124, 38, 126, 58, 44, 45, 63, 48, 49, 97, 98] := by unfold AllS; decide
theorem AllS.take {t : Txt} (h : AllS t) (n : Nat) : AllS (t.take n) := fun c hc => h c (List.mem_of_mem_take hc)
theorem AllS.drop {t : Txt} (h : AllS t) (n : Nat) : AllS (t.drop n) := fun c hc => h c (List.mem_of_mem_drop hc)
theorem spoilt_ok (n : Nat) (ha : Sg a) (hb : Sg b) (hc : Sg c) (xs : List Int) (T : Txt) (hT : AllS T) (hl : T.length ≤ 20000) : ∃ (T' : Txt) (xs' : List Int) (z : D), sem codes (n + 2) i_law_spoilt [.own true (bxs xs), .d (.str T), .d (.lst (L3 a b c))] = .ok (.d (.str T')) [.own true (bxs xs'), .d z, .d (.lst (L3 a b c))] ∧ AllS T' ∧ T'.length ≤ T.length + 3 := by
  rw [sem_c rfl]
  have htk := fun m h1 h2 xs => take_ok n m h1 h2 xs
  have hd := fun xs => drawsign_ok n ha hb hc xs
  generalize sem codes (n + 1) = S at *
  generalize sem' codes (n + 1) = S' at *
  obtain ⟨v, xs1, h, h0, h3⟩ := htk 3 (by decide) (by decide) xs
  obtain ⟨r', e, ⟨xs2, T2, t, u, w, x, rfl, -, -, -, -, hT2, hl2⟩⟩ := for_nx (i := 3) (b := l_law_spoilt_1 S S') (xs := upTo 0 (1 + v).toNat) (r := [.own true (bxs xs1), .d (.str T), .d (.lst (L3 a b c)), .un, .un, .un, .un])
    (fun j r => ∃ (xs : List Int) (T' : Txt) (t u w x : A), r = [.own true (bxs xs), .d (.str T'), .d (.lst (L3 a b c)), t, u, w, x] ∧ freeA t = true ∧ freeA u = true ∧ freeA w = true ∧ freeA x = true ∧ AllS T' ∧ T'.length ≤ T.length + j)
    ⟨xs1, T, .un, .un, .un, .un, rfl, rfl, rfl, rfl, rfl, hT, by omega⟩ (by
      rintro j k r hx ⟨xs, T', t, u, w, x, rfl, ht, hu, hw, hx2, hT', hl'⟩
      refine ⟨ht, by simp, ?_⟩
      have hj := (get_upTo hx).2
      obtain ⟨v1, ys1, g1, g10, g11⟩ := htk ((T'.length : Int) + 1) (by omega) (by omega) xs
      obtain ⟨at_, rfl⟩ : ∃ m : Nat, v1 = m := ⟨v1.toNat, by omega⟩
      obtain ⟨v2, ys2, s, g2, e2, s2⟩ := hd ys1
      obtain ⟨v3, ys3, g3, g30, g32⟩ := htk 2 (by decide) (by decide) ys2
      have c1 := cut_to T' at_
      have c2 := cut_from T' at_
      have c3 := cut_from T' (at_ + 1)
      have c3 : Sk.cut T' (some ((at_ : Int) + 1)) none = T'.drop (at_ + 1) := c3
      have hat : at_ ≤ T'.length := by omega
      -- the sign
      have fin : ∀ (ys : List Int) (s : Nat), Sg s → ∃ (way : Int) (zs : List Int) (x1 : Txt) (d : Nat), S i_law_take [.own true (bxs ys), .d (.int 3)] = .ok (.d (.int way)) [.own true (bxs zs), .d (.int 3)] ∧ itemK [D.str [], D.str [s], D.str [s]] way = some (.str x1) ∧ itemK [D.int 1, D.int 0, D.int 1] way = some (.int d) ∧ AllS x1 ∧ x1.length + (1 - d) ≤ 1 + (if d = 0 then 1 else 0) ∧ (d = 0 ∨ d = 1) ∧ (d = 0 → x1.length ≤ 1) ∧ (d = 1 → x1.length ≤ 1) := by
        intro ys s hs
        obtain ⟨way, zs, q1, q2, q3⟩ := htk 3 (by decide) (by decide) ys
        have : way = 0 ∨ way = 1 ∨ way = 2 := by omega
        rcases this with rfl | rfl | rfl
        · exact ⟨0, zs, [], 1, q1, rfl, rfl, .nil, by simp, .inr rfl, by simp, by simp⟩
        · exact ⟨1, zs, [s], 0, q1, rfl, rfl, .cons hs .nil, by simp, .inl rfl, by simp, by simp⟩
        · exact ⟨2, zs, [s], 1, q1, rfl, rfl, .cons hs .nil, by simp, .inr rfl, by simp, by simp⟩
      have main : ∀ (ys : List Int) (s : Nat), Sg s → (∀ way zs, S i_law_take [.own true (bxs ys), .d (.int 3)] = .ok (.d (.int way)) [.own true (bxs zs), .d (.int 3)] → ∀ x1 d, itemK [D.str [], D.str [s], D.str [s]] way = some (.str x1) → itemK [D.int 1, D.int 0, D.int 1] way = some (.int (d : Nat)) → (d = 0 ∨ d = 1) → x1.length ≤ 1 →
          l_law_spoilt_1 S S' [.own true (bxs xs), .d (.str T'), .d (.lst (L3 a b c)), .d k, u, w, x] = .nx [.own true (bxs zs), .d (.str (T'.take at_ ++ x1 ++ T'.drop (at_ + d))), .d (.lst (L3 a b c)), .d k, .d (.int at_), .d (.str [s]), .d (.int way)]) → ∃ r1, l_law_spoilt_1 S S' [.own true (bxs xs), .d (.str T'), .d (.lst (L3 a b c)), .d k, u, w, x] = .nx r1 ∧ ∃ (xs : List Int) (T'' : Txt) (t u w x : A), r1 = [.own true (bxs xs), .d (.str T''), .d (.lst (L3 a b c)), t, u, w, x] ∧ freeA t = true ∧ freeA u = true ∧ freeA w = true ∧ freeA x = true ∧ AllS T'' ∧ T''.length ≤ T.length + (j + 1) := by
        intro ys s hs hrun
        obtain ⟨way, zs, x1, d, q1, q2, q3, q4, q5, q6, q7, q8⟩ := fin ys s hs
        have hx1 : x1.length ≤ 1 := by rcases q6 with h | h; exact q7 h; exact q8 h
        refine ⟨_, hrun way zs q1 x1 d q2 q3 q6 hx1, zs, _, _, _, _, _, rfl, rfl, rfl, rfl, rfl, ((hT'.take at_).app q4).app (hT'.drop _), ?_⟩
        simp only [List.length_append, List.length_take, List.length_drop]
        omega
      have hfit : ∀ m : Nat, m ≤ 30000 → Fits m := fun m h => fits_of (by omega)
      by_cases h31 : v3 = 1
      · subst h31
        obtain ⟨v4, ys4, g4, g40, g422⟩ := htk 22 (by decide) (by decide) ys3
        obtain ⟨s', e4, s4⟩ := item_all all22 g40 (by simpa using g422)
        refine main ys4 s' s4 ?_
        intro way zs q1 x1 d q2 q3 q6 hx1
        rcases q6 with rfl | rfl
        · have q3 : itemK [D.int 1, D.int 0, D.int 1] way = some (.int 0) := q3
          simp -implicitDefEqProofs (disch := omega) [l_law_spoilt_1, g1, g2, e2, g3, g4, e4, q1, q2, q3, hu, hw, hx2, c1, c2, fits_s]
        · have q3 : itemK [D.int 1, D.int 0, D.int 1] way = some (.int 1) := q3
          simp -implicitDefEqProofs (disch := omega) [l_law_spoilt_1, g1, g2, e2, g3, g4, e4, q1, q2, q3, hu, hw, hx2, c1, c3, fits_s]
      · refine main ys3 s s2 ?_
        intro way zs q1 x1 d q2 q3 q6 hx1
        rcases q6 with rfl | rfl
        · have q3 : itemK [D.int 1, D.int 0, D.int 1] way = some (.int 0) := q3
          simp -implicitDefEqProofs (disch := omega) [l_law_spoilt_1, g1, g2, e2, g3, h31, q1, q2, q3, hu, hw, hx2, c1, c2, fits_s]
        · have q3 : itemK [D.int 1, D.int 0, D.int 1] way = some (.int 1) := q3
          simp -implicitDefEqProofs (disch := omega) [l_law_spoilt_1, g1, g2, e2, g3, h31, q1, q2, q3, hu, hw, hx2, c1, c3, fits_s])
  rw [len_upTo] at hl2
  refine ⟨T2, xs2, .str T2, ?_, hT2, by omega⟩
  have hr : okR (1 + v) := okR_of (by omega) (by omega)
  simp -implicitDefEqProofs [c_law_spoilt, h, e, hr]
end
end Ex
end HT

namespace HT
open Sk
namespace Ex
theorem cnt_wrap (b : Bool) (t : Txt) : t.count 40 ≤ (wrapT b t).count 40 := by
  unfold wrapT
  split <;> simp [List.count_cons]
mutual
theorem ng_cnt : ∀ p : Pat, p.ng ≤ (wr p).count 40
  | .row ps => by simp only [Pat.ng, wr]; exact ngs_cntI ps
  | .alt ps => by simp only [Pat.ng, wr]; exact ngs_cnt ps
  | .times lo hi how p => by
    have h1 := ng_cnt p
    have h2 := cnt_wrap p.isCmp (wr p)
    simp only [Pat.ng, wr, List.count_append]
    omega
  | .group k p => by
    have h1 := ng_cnt p
    simp only [Pat.ng, wr, List.count_cons, List.count_append]
    simp; omega
  | .have_ k p q => by
    have h1 := ng_cnt p
    have h2 := ng_cnt q
    simp only [Pat.ng, wr, List.count_cons, List.count_append]
    omega
  | .look k p => by
    have h1 := ng_cnt p
    simp only [Pat.ng, wr, List.count_cons, List.count_append]
    omega
  | .sign _ => by simp [Pat.ng]
  | .any => by simp [Pat.ng]
  | .runs _ _ => by simp [Pat.ng]
  | .edge _ => by simp [Pat.ng]
  | .again _ => by simp [Pat.ng]
theorem ngs_cnt : ∀ ps : List Pat, ngs ps ≤ (joinT [124] (wrs ps)).count 40
  | [] => by simp [ngs]
  | [p] => by have := ng_cnt p; simp only [ngs, wrs, joinT]; omega
  | p :: q :: ps => by
    have h1 := ng_cnt p
    have h2 := ngs_cnt (q :: ps)
    show ngs (p :: q :: ps) ≤ (wr p ++ ([124] ++ joinT [124] (wrs (q :: ps)))).count 40
    simp only [List.count_append]
    rw [show ngs (p :: q :: ps) = p.ng + ngs (q :: ps) from rfl]
    omega
theorem ngs_cntI : ∀ ps : List Pat, ngs ps ≤ (wrI ps).flatten.count 40
  | [] => by simp [ngs]
  | p :: ps => by
    have h1 := ng_cnt p
    have h2 := cnt_wrap p.isAlt (wr p)
    have h3 := ngs_cntI ps
    simp only [ngs, wrI, List.flatten_cons, List.count_append]
    omega
end
section
variable {a b c : Nat}
theorem line_ok (n : Nat) (ha : Sg a) (hb : Sg b) (hc : Sg c) (xs : List Int) : ∃ (T : Txt) (xs' : List Int), sem codes (n + 31) i_law_line [.own true (bxs xs), .d (.lst (L3 a b c))] = .ok (.d (.str T)) [.own true (bxs xs'), .d (.lst (L3 a b c))] ∧ AllS T ∧ T.length ≤ 20000 := by
  rw [sem_c rfl]
  have htk := fun m h1 h2 xs => take_ok (n + 29) m h1 h2 xs
  have hbe := fun xs => beyond_ok (n + 26) ha hb hc xs
  have hdr := fun xs => drawn_ok (n + 19) ha hb hc xs 0
  have hsp := fun xs T h1 h2 => spoilt_ok (n + 28) ha hb hc xs T h1 h2
  have hlw := fun p hp hn => lw_okW 11 (n + 4) p hp hn
  rw [show n + 29 + 1 = n + 30 from rfl] at htk
  rw [show n + 26 + 4 = n + 30 from rfl] at hbe
  rw [show n + 19 + 11 = n + 30 from rfl] at hdr
  rw [show n + 28 + 2 = n + 30 from rfl] at hsp
  rw [show n + 4 + 2 * 11 + 4 = n + 30 from rfl] at hlw
  have wup : ∀ {p : Pat}, Wf 6 p → Ww 11 p := fun h => Wf.ww (h.mono (by omega))
  generalize sem codes (n + 30) = S at *
  generalize sem' codes (n + 30) = S' at *
  obtain ⟨v, xs1, h, h0, h8⟩ := htk 8 (by decide) (by decide) xs
  by_cases h2 : v < 2
  · obtain ⟨u, xs2, g, g0, g13⟩ := htk 13 (by decide) (by decide) xs1
    obtain ⟨r', e, ⟨xs3, T, t, rfl, -, hT, hl⟩⟩ := for_nx (i := 4) (b := l_law_line_1 S S') (xs := upTo 0 u.toNat) (r := [.own true (bxs xs2), .d (.lst (L3 a b c)), .d (.int v), .d (.str []), .un, .un])
      (fun j r => ∃ (xs : List Int) (T : Txt) (t : A), r = [.own true (bxs xs), .d (.lst (L3 a b c)), .d (.int v), .d (.str T), t, .un] ∧ freeA t = true ∧ AllS T ∧ T.length ≤ j)
      ⟨xs2, [], .un, rfl, rfl, .nil, by simp⟩ (by
        rintro j k r hx ⟨xs, T, t, rfl, ht, hT, hl⟩
        refine ⟨ht, by simp, ?_⟩
        have hj := (get_upTo hx).2
        obtain ⟨w, ys, q, q0, q21⟩ := htk 21 (by decide) (by decide) xs
        obtain ⟨s, es, ss⟩ := item_all all21 q0 (by simpa using q21)
        exact ⟨_, by simp -implicitDefEqProofs (disch := omega) [l_law_line_1, q, es, fits_s], ys, T ++ [s], .d k, rfl, rfl, hT.app (.cons ss .nil), by simp; omega⟩)
    rw [len_upTo] at hl
    refine ⟨T, xs3, ?_, hT, by omega⟩
    have hr : okR u := okR_of (by omega) (by omega)
    simp -implicitDefEqProofs [c_law_line, h, h2, g, hr, e]
  · -- what is written
    have tail : ∀ (T : Txt) (ys : List Int), AllS T → T.length ≤ 19000 → ∃ (T' : Txt) (xs' : List Int), (∃ w zs, S i_law_take [.own true (bxs ys), .d (.int 8)] = .ok (.d (.int w)) [.own true (bxs zs), .d (.int 8)] ∧ ((w = 1 ∨ v = 2) ∧ T' = T ∧ xs' = zs ∨ (¬ w = 1 ∧ ¬ v = 2) ∧ ∃ z : D, S i_law_spoilt [.own true (bxs zs), .d (.str T), .d (.lst (L3 a b c))] = .ok (.d (.str T')) [.own true (bxs xs'), .d z, .d (.lst (L3 a b c))])) ∧ AllS T' ∧ T'.length ≤ 20000 := by
      intro T ys hT hl
      obtain ⟨w, zs, q, q0, q8⟩ := htk 8 (by decide) (by decide) ys
      by_cases hw : w = 1 ∨ v = 2
      · exact ⟨T, zs, ⟨w, zs, q, .inl ⟨hw, rfl, rfl⟩⟩, hT, by omega⟩
      · obtain ⟨T', xs', z, e, a1, a2⟩ := hsp zs T hT (by omega)
        exact ⟨T', xs', ⟨w, zs, q, .inr ⟨⟨fun z => hw (.inl z), fun z => hw (.inr z)⟩, z, e⟩⟩, a1, by omega⟩
    by_cases h4 : v < 4
    · obtain ⟨p, xs2, g, wp, np⟩ := hbe xs1
      have hw := hlw p wp np
      have hl := wr_leW wp
      obtain ⟨T', xs', ⟨w, zs, q, ⟨hwv, e1, e2⟩ | ⟨⟨n1, n2⟩, z, e⟩⟩, a1, a2⟩ := tail (wr p) xs2 (wr_all wp) (by omega)
      · rw [e1] at a1 a2
        refine ⟨wr p, zs, ?_, a1, a2⟩
        clear e1 e2
        generalize wr p = W at *
        generalize enc p = E at *
        rcases hwv with rfl | rfl
        · simp -implicitDefEqProofs [c_law_line, h, h2, h4, g, hw, q]
        · by_cases hw1 : w = 1
          · subst hw1
            simp -implicitDefEqProofs [c_law_line, h, h2, h4, g, hw, q]
          · simp -implicitDefEqProofs [c_law_line, h, h2, h4, g, hw, q, hw1]
      · refine ⟨T', xs', ?_, a1, a2⟩
        generalize wr p = W at *
        generalize enc p = E at *
        simp -implicitDefEqProofs [c_law_line, h, h2, h4, g, hw, q, n1, n2, e]
    · obtain ⟨p, xs2, k, g, hk, wp, gp, bp, np⟩ := hdr xs1
      have g : S i_law_drawn [.own true (bxs xs1), .d (.lst (L3 a b c)), .d (.int 0)] = .ok (.d (.tup [enc p, .tup (List.replicate k .non)])) [.own true (bxs xs2), .d (.lst (L3 a b c)), .d (.int 0)] := g
      have hw := hlw p (wup wp) (by omega)
      have hl := wr_leW (wup wp)
      obtain ⟨T', xs', ⟨w, zs, q, ⟨hwv, e1, e2⟩ | ⟨⟨n1, n2⟩, z, e⟩⟩, a1, a2⟩ := tail (wr p) xs2 (wr_all (wup wp)) (by omega)
      · rw [e1] at a1 a2
        refine ⟨wr p, zs, ?_, a1, a2⟩
        clear e1 e2
        generalize wr p = W at *
        generalize enc p = E at *
        rcases hwv with rfl | rfl
        · simp -implicitDefEqProofs [c_law_line, h, h2, h4, g, hw, q]
        · exact absurd (by decide) h4
      · refine ⟨T', xs', ?_, a1, a2⟩
        generalize wr p = W at *
        generalize enc p = E at *
        simp -implicitDefEqProofs [c_law_line, h, h2, h4, g, hw, q, n1, n2, e]
end
theorem refused_ok (n : Nat) (T : Txt) (h : sem codes (n + 1) i_read_pattern [.d (.str T)] = .exc "Unread") : sem codes (n + 2) i_law_refused [.d (.str T)] = .ok (.d (.bl true)) [.d (.str T)] := by
  rw [sem_c rfl]
  generalize sem codes (n + 1) = S at *
  generalize sem' codes (n + 1) = S' at *
  simp -implicitDefEqProofs [c_law_refused, h, List.lookup]
end Ex
end HT

namespace HT
open Sk
namespace Rd
/-- what may stand behind a whole: nothing, or what closes it -/
def Stop (rest : Txt) : Prop := rest = [] ∨ ∃ c tl, rest = c :: tl ∧ (c = 41 ∨ c = 62 ∨ c = 126)
/-- a whole is read: the groups from G to G' -/
def WholeS (S : Nat → FSem) (N : Nat) (p : Pat) (G G' : Nat) : Prop := ∀ (T rest : Txt) (i nest : Nat), nest ≤ N → T.drop i = wr p ++ rest → Stop rest →
  S i_Reader_whole [rs T i G, .d (.int nest)] = .ok (.d (enc p)) [rs T ((i + (wr p).length : Nat) : Int) G', .d (.int nest)]
theorem one_group (m N : Nat) (p : Pat) {T rest : Txt} {i nest G G' : Nat} (hn : nest + 1 ≤ N) (hw : WholeS (sem codes (m + 3)) N p (G + 1) G') (h : T.drop i = 40 :: (wr p ++ 41 :: rest)) :
    sem codes (m + 4) i_Reader_one [rs T i G, .d (.int nest)] = .ok (.d (enc (.group (G + 1) p))) [rs T ((i + 1 + (wr p).length + 1 : Nat) : Int) G', .d (.int nest)] := by
  have h1 := take_ok (m + 1) G h
  have d1 := drop_one h
  have h2 := hw T (41 :: rest) (i + 1) (nest + 1) hn d1 (.inr ⟨41, rest, rfl, .inl rfl⟩)
  have d2 := drop_go d1
  have h3 := want_ok m G' d2
  rw [sem_c rfl]
  rw [show enc (.group (G + 1) p) = .tup [.str [103, 114, 111, 117, 112], .int ((G : Int) + 1), enc p] from rfl, show ((i + 1 + (wr p).length + 1 : Nat) : Int) = ((i + 1 + (wr p).length : Nat) : Int) + 1 from rfl]
  rw [show ((i + 1 : Nat) : Int) = (i : Int) + 1 from rfl, show ((G + 1 : Nat) : Int) = (G : Int) + 1 from rfl, show ((nest + 1 : Nat) : Int) = (nest : Int) + 1 from rfl] at h2
  generalize ((i + 1 + (wr p).length : Nat) : Int) = J at *
  generalize enc p = E at *
  generalize sem codes (m + 3) = S at *
  generalize sem' codes (m + 3) = S' at *
  simp -implicitDefEqProofs [c_Reader_one, h1, h2, h3]
/-- <, then bracket -/
theorem one_br (m : Nat) {T tl : Txt} {i G G' j nest : Nat} {x : D} (h : T.drop i = 60 :: tl) (hb : sem codes (m + 2) i_Reader_bracket [rs T ((i + 1 : Nat) : Int) G, .d (.int nest)] = .ok (.d x) [rs T (j : Int) G', .d (.int nest)]) :
    sem codes (m + 3) i_Reader_one [rs T i G, .d (.int nest)] = .ok (.d x) [rs T (j : Int) G', .d (.int nest)] := by
  have h1 := take_ok m G h
  rw [sem_c rfl]
  rw [show ((i + 1 : Nat) : Int) = (i : Int) + 1 from rfl] at hb
  generalize sem codes (m + 2) = S at *
  generalize sem' codes (m + 2) = S' at *
  simp -implicitDefEqProofs [c_Reader_one, h1, hb]
theorem br_plain (m N : Nat) (p : Pat) {T rest : Txt} {i nest G G' : Nat} (hn : nest + 1 ≤ N) (hw : WholeS (sem codes (m + 3)) N p G G') (h : T.drop i = 58 :: (wr p ++ 62 :: rest)) :
    sem codes (m + 4) i_Reader_bracket [rs T i G, .d (.int nest)] = .ok (.d (enc p)) [rs T ((i + 1 + (wr p).length + 1 : Nat) : Int) G', .d (.int nest)] := by
  have h1 := take_ok (m + 1) G h
  have d1 := drop_one h
  have h2 := hw T (62 :: rest) (i + 1) (nest + 1) hn d1 (.inr ⟨62, rest, rfl, .inr (.inl rfl)⟩)
  have d2 := drop_go d1
  have h3 := want_ok m G' d2
  rw [sem_c rfl]
  rw [show ((i + 1 + (wr p).length + 1 : Nat) : Int) = ((i + 1 + (wr p).length : Nat) : Int) + 1 from rfl]
  rw [show ((i + 1 : Nat) : Int) = (i : Int) + 1 from rfl, show ((nest + 1 : Nat) : Int) = (nest : Int) + 1 from rfl] at h2
  generalize ((i + 1 + (wr p).length : Nat) : Int) = J at *
  generalize enc p = E at *
  generalize sem codes (m + 3) = S at *
  generalize sem' codes (m + 3) = S' at *
  simp -implicitDefEqProofs [c_Reader_bracket, h1, h2, h3]
theorem br_look (m N : Nat) (k : Look) (p : Pat) {T rest : Txt} {i nest G G' : Nat} (hn : nest + 1 ≤ N) (hw : WholeS (sem codes (m + 3)) N p G G') (h : T.drop i = k.m :: (wr p ++ 62 :: rest)) :
    sem codes (m + 4) i_Reader_bracket [rs T i G, .d (.int nest)] = .ok (.d (enc (.look k p))) [rs T ((i + 1 + (wr p).length + 1 : Nat) : Int) G', .d (.int nest)] := by
  have h1 := take_ok (m + 1) G h
  have d1 := drop_one h
  have h2 := hw T (62 :: rest) (i + 1) (nest + 1) hn d1 (.inr ⟨62, rest, rfl, .inr (.inl rfl)⟩)
  have d2 := drop_go d1
  have h3 := want_ok m G' d2
  have f0 : Fit1 0 := fit1_of (by decide)
  rw [sem_c rfl]
  rw [show enc (.look k p) = .tup [.str k.t, enc p] from rfl, show ((i + 1 + (wr p).length + 1 : Nat) : Int) = ((i + 1 + (wr p).length : Nat) : Int) + 1 from rfl]
  rw [show ((i + 1 : Nat) : Int) = (i : Int) + 1 from rfl, show ((nest + 1 : Nat) : Int) = (nest : Int) + 1 from rfl] at h2
  generalize ((i + 1 + (wr p).length : Nat) : Int) = J at *
  generalize enc p = E at *
  generalize sem codes (m + 3) = S at *
  generalize sem' codes (m + 3) = S' at *
  cases k <;> simp only [Look.m] at h1 <;> simp -implicitDefEqProofs [c_Reader_bracket, h1, h2, h3, Look.t, f0]
theorem br_have (m N : Nat) (k : Nat) (hk : k ≤ 9) (p q : Pat) {T rest : Txt} {i nest G G1 G2 : Nat} (hn : nest + 1 ≤ N) (hw : WholeS (sem codes (m + 3)) N p G G1) (hw2 : WholeS (sem codes (m + 3)) N q G1 G2) (h : T.drop i = (48 + k) :: (wr p ++ 126 :: (wr q ++ 62 :: rest))) :
    sem codes (m + 4) i_Reader_bracket [rs T i G, .d (.int nest)] = .ok (.d (enc (.have_ k p q))) [rs T ((i + 1 + (wr p).length + 1 + (wr q).length + 1 : Nat) : Int) G2, .d (.int nest)] := by
  have h1 := take_ok (m + 1) G h
  have d1 := drop_one h
  have h2 := hw T _ (i + 1) (nest + 1) hn d1 (.inr ⟨126, _, rfl, .inr (.inr rfl)⟩)
  have d2 := drop_go d1
  have h3 := want_ok m G1 d2
  have d3 := drop_one d2
  have h4 := hw2 T _ (i + 1 + (wr p).length + 1) (nest + 1) hn d3 (.inr ⟨62, _, rfl, .inr (.inl rfl)⟩)
  have d4 := drop_go d3
  have h5 := want_ok m G2 d4
  rw [sem_c rfl]
  rw [show enc (.have_ k p q) = .tup [.str [104, 97, 118, 101], .int k, enc p, enc q] from rfl, show ((i + 1 + (wr p).length + 1 + (wr q).length + 1 : Nat) : Int) = ((i + 1 + (wr p).length + 1 + (wr q).length : Nat) : Int) + 1 from rfl]
  rw [show ((i + 1 : Nat) : Int) = (i : Int) + 1 from rfl, show ((nest + 1 : Nat) : Int) = (nest : Int) + 1 from rfl] at h2
  rw [show ((i + 1 + (wr p).length + 1 : Nat) : Int) = ((i + 1 + (wr p).length : Nat) : Int) + 1 from rfl, show ((nest + 1 : Nat) : Int) = (nest : Int) + 1 from rfl] at h4
  generalize ((i + 1 + (wr p).length + 1 + (wr q).length : Nat) : Int) = J2 at *
  generalize ((i + 1 + (wr p).length : Nat) : Int) = J at *
  generalize enc p = E at *
  generalize enc q = E2 at *
  generalize sem codes (m + 3) = S at *
  generalize sem' codes (m + 3) = S' at *
  have hk : k = 0 ∨ k = 1 ∨ k = 2 ∨ k = 3 ∨ k = 4 ∨ k = 5 ∨ k = 6 ∨ k = 7 ∨ k = 8 ∨ k = 9 := by omega
  rcases hk with rfl | rfl | rfl | rfl | rfl | rfl | rfl | rfl | rfl | rfl <;> simp -implicitDefEqProofs [c_Reader_bracket, h1, h2, h3, h4, h5]
end Rd
end HT

namespace HT
open Sk
namespace Rd
/-- what may stand behind a branch -/
def BStop (rest : Txt) : Prop := rest = [] ∨ ∃ c tl, rest = c :: tl ∧ (c = 124 ∨ c = 41 ∨ c = 62 ∨ c = 126)
theorem Stop.b {rest : Txt} (h : Stop rest) : BStop rest := by
  rcases h with h | ⟨c, tl, h, q⟩
  · exact .inl h
  · exact .inr ⟨c, tl, h, .inr q⟩
theorem BStop.ne {rest : Txt} (h : BStop rest) : ∀ tl, rest ≠ 123 :: tl := by
  rintro tl rfl
  rcases h with h | ⟨c, tl', h, q⟩
  · cases h
  · cases h; omega
/-- a sign that a part may begin with -/
def Hd (c : Nat) : Prop := c ≠ 124 ∧ c ≠ 41 ∧ c ≠ 62 ∧ c ≠ 126 ∧ c ≠ 123
/-- a part is read -/
def PartS (S : Nat → FSem) (N : Nat) (q : Pat) (G G' : Nat) : Prop := (∃ c tl, ptxt q = c :: tl ∧ Hd c) ∧ ∀ (T rest : Txt) (i nest : Nat), nest ≤ N → T.drop i = ptxt q ++ rest → (∀ tl, rest ≠ 123 :: tl) →
  ∃ (x y : D) (j : Nat), S i_Reader_one [rs T i G, .d (.int nest)] = .ok (.d x) [rs T (j : Int) G', .d (.int nest)] ∧ S i_Reader_turned [rs T (j : Int) G', .d x] = .ok (.d (enc q)) [rs T ((i + (ptxt q).length : Nat) : Int) G', .d y]
inductive PartsS (S : Nat → FSem) (N : Nat) : List Pat → Nat → Nat → Prop
  | nil {G : Nat} : PartsS S N [] G G
  | cons {q : Pat} {ps : List Pat} {G G1 G' : Nat} : PartS S N q G G1 → PartsS S N ps G1 G' → PartsS S N (q :: ps) G G'
theorem parts_next {S : Nat → FSem} {N G G' : Nat} {ps : List Pat} {rest : Txt} (h : PartsS S N ps G G') (hr : BStop rest) : (∀ tl, (wrI ps).flatten ++ rest ≠ 123 :: tl) := by
  cases h with
  | nil => exact hr.ne
  | cons hp _ =>
    obtain ⟨⟨c, tl, e, hc⟩, _⟩ := hp
    intro tl' z
    rw [wrI_eq, List.map_cons, List.flatten_cons, e] at z
    have : c = 123 := by simpa using (List.cons.inj z).1
    exact hc.2.2.2.2 this
noncomputable abbrev bT (S : Nat → FSem) : EV := eAnd (eOp opNe (eMeth "Reader" "ahead" (S i_Reader_ahead) (eVar 0) aNil) (eC (.str []))) (eOp opNinS (eMeth "Reader" "ahead" (S i_Reader_ahead) (eVar 0) aNil) (eC (.str [124, 41, 62, 126])))
theorem branch_loop (m N : Nat) (T : Txt) (nest : Nat) (hn : nest ≤ N) (rest : Txt) (hr : BStop rest) : ∀ (ps : List Pat) (G G' i : Nat) (acc : List D), PartsS (sem codes (m + 1)) N ps G G' → acc.length + ps.length ≤ 1000 → T.drop i = (wrI ps).flatten ++ rest →
    ∃ K, whileN (bT (sem codes (m + 1))) (l_Reader_branch_1 (sem codes (m + 1)) (sem' codes (m + 1))) K [rs T i G, .d (.int nest), .own false acc] = .nx [rs T ((i + (wrI ps).flatten.length : Nat) : Int) G', .d (.int nest), .own false (acc ++ encs ps)]
  | [], G, G', i, acc, hp, hl, h => by
    cases hp
    refine ⟨1, ?_⟩
    rw [show ((i + (wrI []).flatten.length : Nat) : Int) = (i : Int) from by simp [wrI], show acc ++ encs [] = acc by simp [encs]]
    have h : T.drop i = rest := h
    rcases hr with rfl | ⟨c, tl, rfl, hc⟩
    · have ha := ahead0 m G h
      refine whileN_end ?_
      generalize sem codes (m + 1) = S at *
      simp -implicitDefEqProofs [ha]
    · have ha := ahead1 m G h
      refine whileN_end ?_
      generalize sem codes (m + 1) = S at *
      rcases hc with rfl | rfl | rfl | rfl <;> simp -implicitDefEqProofs [ha]
  | q :: ps, G, G', i, acc, hp, hl, h => by
    cases hp with
    | @cons _ _ _ G1 _ hq hps =>
      obtain ⟨⟨c, tl, e, hc⟩, hq⟩ := hq
      have hcat : (wrI (q :: ps)).flatten ++ rest = ptxt q ++ ((wrI ps).flatten ++ rest) := by simp [wrI, ptxt]
      have d0 := h.trans hcat
      obtain ⟨x, y, j, h1, h2⟩ := hq T _ i nest hn d0 (parts_next hps hr)
      have d1 := drop_go d0
      have ha := ahead1 m G (show T.drop i = c :: (tl ++ ((wrI ps).flatten ++ rest)) by rw [d0, e]; rfl)
      have hf : Fit1 acc.length := fit1_of (by simp at hl; omega)
      obtain ⟨K, ih⟩ := branch_loop m N T nest hn rest hr ps G1 G' (i + (ptxt q).length) (acc ++ [enc q]) hps (by simp at hl ⊢; omega) d1
      refine ⟨K + 1, ?_⟩
      rw [show i + (wrI (q :: ps)).flatten.length = i + (ptxt q).length + (wrI ps).flatten.length by simp [wrI, ptxt]; omega, show acc ++ encs (q :: ps) = acc ++ [enc q] ++ encs ps by simp [encs], ← ih]
      obtain ⟨c1, c2, c3, c4, c5⟩ := hc
      generalize ((i + (ptxt q).length : Nat) : Int) = J at *
      generalize enc q = E at *
      generalize sem codes (m + 1) = S at *
      generalize sem' codes (m + 1) = S' at *
      exact whileN_go (r1 := [rs T i G, .d (.int nest), .own false acc]) (by simp -implicitDefEqProofs [ha, c1, c2, c3, c4]) (by simp -implicitDefEqProofs [l_Reader_branch_1, h1, h2, hf])
end Rd
end HT

namespace HT
open Sk
namespace Rd
/-- a branch is read -/
def BranchS (S : Nat → FSem) (N : Nat) (p : Pat) (G G' : Nat) : Prop := ∀ (T rest : Txt) (i nest : Nat), nest ≤ N → T.drop i = wr p ++ rest → BStop rest →
  S i_Reader_branch [rs T i G, .d (.int nest)] = .ok (.d (enc p)) [rs T ((i + (wr p).length : Nat) : Int) G', .d (.int nest)]
theorem encs_map : ∀ ps : List Pat, encs ps = ps.map enc
  | [] => rfl
  | p :: ps => by simp [encs, encs_map ps]
theorem branch_row (m N : Nat) (ps : List Pat) (G G' : Nat) (hl : ps.length ≤ 900) (h1 : ps.length ≠ 1) (hp : PartsS (sem codes (m + 1)) N ps G G') : BranchS (sem codes (m + 2)) N (.row ps) G G' := by
  intro T rest i nest hn h hr
  have h : T.drop i = (wrI ps).flatten ++ rest := h
  obtain ⟨K, hw⟩ := branch_loop m N T nest hn rest hr ps G G' i [] hp (by simp; omega) h
  have hw := sWhile_eq K hw (by simp)
  rw [sem_c rfl]
  rw [show (wr (.row ps)).length = (wrI ps).flatten.length from rfl, show enc (.row ps) = .tup [.str [114, 111, 119], .tup (encs ps)] from rfl]
  have hlen : ¬ ((encs ps).length : Int) = 1 := by rw [encs_map, List.length_map]; omega
  rw [List.nil_append] at hw
  generalize ((i + (wrI ps).flatten.length : Nat) : Int) = J at *
  generalize encs ps = E at *
  generalize hb : l_Reader_branch_1 (sem codes (m + 1)) (sem' codes (m + 1)) = b at *
  simp only [c_Reader_branch, hb]
  generalize sem codes (m + 1) = S at *
  generalize sem' codes (m + 1) = S' at *
  have hlen' : ¬ E.length = 1 := by omega
  simp -implicitDefEqProofs [hw, hlen, hlen']
theorem branch_one (m N : Nat) (p : Pat) (hp0 : p.isAlt = false) (G G' : Nat) (hp : PartS (sem codes (m + 1)) N p G G') : BranchS (sem codes (m + 2)) N p G G' := by
  intro T rest i nest hn h hr
  have ht : (wrI [p]).flatten = wr p := by simp [wrI, hp0, wrapT]
  obtain ⟨K, hw⟩ := branch_loop m N T nest hn rest hr [p] G G' i [] (.cons hp .nil) (by simp) (by rw [ht]; exact h)
  have hw := sWhile_eq K hw (by simp)
  rw [sem_c rfl]
  rw [ht, List.nil_append, show encs [p] = [enc p] from rfl] at hw
  generalize ((i + (wr p).length : Nat) : Int) = J at *
  generalize enc p = E at *
  generalize hb : l_Reader_branch_1 (sem codes (m + 1)) (sem' codes (m + 1)) = b at *
  simp only [c_Reader_branch, hb]
  generalize sem codes (m + 1) = S at *
  generalize sem' codes (m + 1) = S' at *
  simp -implicitDefEqProofs [hw]
inductive BranchesS (S : Nat → FSem) (N : Nat) : List Pat → Nat → Nat → Prop
  | nil {G : Nat} : BranchesS S N [] G G
  | cons {q : Pat} {ps : List Pat} {G G1 G' : Nat} : BranchS S N q G G1 → BranchesS S N ps G1 G' → BranchesS S N (q :: ps) G G'
def bars (ps : List Pat) : Txt := (ps.map fun q => 124 :: wr q).flatten
theorem join_bars : ∀ (ps : List Pat) (p : Pat), joinT [124] (wrs (p :: ps)) = wr p ++ bars ps
  | [], p => by simp [wrs, joinT, bars]
  | q :: ps, p => by
    have ih := join_bars ps q
    simp only [wrs] at ih ⊢
    show wr p ++ ([124] ++ joinT [124] (wr q :: wrs ps)) = _
    rw [ih]
    simp [bars]
theorem bars_stop (ps : List Pat) {rest : Txt} (hr : Stop rest) : BStop (bars ps ++ rest) := by
  cases ps with
  | nil => exact hr.b
  | cons q ps => exact .inr ⟨124, _, by simp [bars]; rfl, .inl rfl⟩
noncomputable abbrev wT (S : Nat → FSem) : EV := eOp opEq (eMeth "Reader" "ahead" (S i_Reader_ahead) (eVar 0) aNil) (eC (.str [124]))
theorem whole_loop (m N : Nat) (T : Txt) (nest : Nat) (hn : nest ≤ N) (rest : Txt) (hr : Stop rest) : ∀ (ps : List Pat) (G G' i : Nat) (acc : List D), BranchesS (sem codes (m + 1)) N ps G G' → acc.length + ps.length ≤ 1000 → T.drop i = bars ps ++ rest →
    ∃ K, whileN (wT (sem codes (m + 1))) (l_Reader_whole_1 (sem codes (m + 1)) (sem' codes (m + 1))) K [rs T i G, .d (.int nest), .own false acc] = .nx [rs T ((i + (bars ps).length : Nat) : Int) G', .d (.int nest), .own false (acc ++ encs ps)]
  | [], G, G', i, acc, hp, hl, h => by
    cases hp
    refine ⟨1, ?_⟩
    rw [show ((i + (bars []).length : Nat) : Int) = (i : Int) from by simp [bars], show acc ++ encs [] = acc by simp [encs]]
    have h : T.drop i = rest := h
    rcases hr with rfl | ⟨c, tl, rfl, hc⟩
    · have ha := ahead0 m G h
      refine whileN_end ?_
      generalize sem codes (m + 1) = S at *
      simp -implicitDefEqProofs [ha]
    · have ha := ahead1 m G h
      refine whileN_end ?_
      generalize sem codes (m + 1) = S at *
      rcases hc with rfl | rfl | rfl <;> simp -implicitDefEqProofs [ha]
  | q :: ps, G, G', i, acc, hp, hl, h => by
    cases hp with
    | @cons _ _ _ G1 _ hq hps =>
      have hcat : bars (q :: ps) ++ rest = 124 :: (wr q ++ (bars ps ++ rest)) := by simp [bars]
      have d0 := h.trans hcat
      have ha := ahead1 m G d0
      have d1 := drop_one d0
      have h1 := hq T _ (i + 1) nest hn d1 (bars_stop ps hr)
      have d2 := drop_go d1
      have hf : Fit1 acc.length := fit1_of (by simp at hl; omega)
      obtain ⟨K, ih⟩ := whole_loop m N T nest hn rest hr ps G1 G' (i + 1 + (wr q).length) (acc ++ [enc q]) hps (by simp at hl ⊢; omega) d2
      refine ⟨K + 1, ?_⟩
      rw [show i + (bars (q :: ps)).length = i + 1 + (wr q).length + (bars ps).length by simp [bars]; omega, show acc ++ encs (q :: ps) = acc ++ [enc q] ++ encs ps by simp [encs], ← ih]
      rw [show ((i + 1 : Nat) : Int) = (i : Int) + 1 from rfl] at h1
      generalize ((i + 1 + (wr q).length : Nat) : Int) = J at *
      generalize enc q = E at *
      generalize sem codes (m + 1) = S at *
      generalize sem' codes (m + 1) = S' at *
      exact whileN_go (r1 := [rs T i G, .d (.int nest), .own false acc]) (by simp -implicitDefEqProofs [ha]) (by simp -implicitDefEqProofs [l_Reader_whole_1, h1, hf])
end Rd
end HT

namespace HT
open Sk
namespace Rd
theorem whole_any (m N : Nat) (hN : N ≤ 16) (p0 : Pat) (ps : List Pat) (hl : ps.length ≤ 900) (G G1 G' : Nat) (h0 : BranchS (sem codes (m + 1)) N p0 G G1) (hb : BranchesS (sem codes (m + 1)) N ps G1 G') (T rest : Txt) (i nest : Nat) (hn : nest ≤ N) (h : T.drop i = wr p0 ++ (bars ps ++ rest)) (hr : Stop rest) :
    sem codes (m + 2) i_Reader_whole [rs T i G, .d (.int nest)] = .ok (.d (if ps = [] then enc p0 else enc (.alt (p0 :: ps)))) [rs T ((i + (wr p0).length + (bars ps).length : Nat) : Int) G', .d (.int nest)] := by
  have h1 := h0 T _ i nest hn h (bars_stop ps hr)
  have d1 := drop_go h
  obtain ⟨K, hw⟩ := whole_loop m N T nest hn rest hr ps G1 G' (i + (wr p0).length) [enc p0] hb (by simp; omega) d1
  have hw := sWhile_eq K hw (by simp)
  have hn2 : ¬ (2 : Int) * 8 < (nest : Int) := by omega
  have hn3 : ¬ (16 : Int) < (nest : Int) := by omega
  have hm : mulOk 2 8 := mulOk_l (by decide) (by decide)
  rw [sem_c rfl]
  generalize hJ2 : ((i + (wr p0).length + (bars ps).length : Nat) : Int) = J2 at *
  generalize ((i + (wr p0).length : Nat) : Int) = J at *
  generalize hb' : l_Reader_whole_1 (sem codes (m + 1)) (sem' codes (m + 1)) = b at *
  cases ps with
  | nil =>
    rw [if_pos rfl]
    rw [show [enc p0] ++ encs [] = [enc p0] from rfl] at hw
    simp only [c_Reader_whole, hb']
    generalize enc p0 = E at *
    generalize sem codes (m + 1) = S at *
    generalize sem' codes (m + 1) = S' at *
    simp -implicitDefEqProofs [hm, h1, hw, hn2, hn3]
  | cons q ps =>
    rw [if_neg (by simp)]
    rw [show enc (.alt (p0 :: q :: ps)) = .tup [.str [111, 114], .tup ([enc p0] ++ encs (q :: ps))] from rfl]
    have hlen : ([enc p0] ++ encs (q :: ps)).length ≠ 1 := by simp [encs]
    simp only [c_Reader_whole, hb']
    generalize [enc p0] ++ encs (q :: ps) = E at *
    generalize enc p0 = E0 at *
    generalize sem codes (m + 1) = S at *
    generalize sem' codes (m + 1) = S' at *
    have hlen2 : ¬ (E.length : Int) = 1 := by omega
    simp -implicitDefEqProofs [hm, h1, hw, hn2, hn3, hlen, hlen2]
theorem whole_alt (m N : Nat) (hN : N ≤ 16) (p0 : Pat) (ps : List Pat) (h2 : ps ≠ []) (hl : ps.length ≤ 900) (G G1 G' : Nat) (h0 : BranchS (sem codes (m + 1)) N p0 G G1) (hb : BranchesS (sem codes (m + 1)) N ps G1 G') : WholeS (sem codes (m + 2)) N (.alt (p0 :: ps)) G G' := by
  intro T rest i nest hn h hr
  have hj : wr (.alt (p0 :: ps)) = wr p0 ++ bars ps := join_bars ps p0
  rw [hj, List.append_assoc] at h
  have := whole_any m N hN p0 ps hl G G1 G' h0 hb T rest i nest hn h hr
  rw [if_neg h2] at this
  rw [hj, List.length_append, ← Nat.add_assoc]
  exact this
theorem whole_one (m N : Nat) (hN : N ≤ 16) (p : Pat) (G G' : Nat) (h0 : BranchS (sem codes (m + 1)) N p G G') : WholeS (sem codes (m + 2)) N p G G' := by
  intro T rest i nest hn h hr
  exact whole_any m N hN p [] (by simp) G G' G' h0 .nil T rest i nest hn h hr
end Rd
end HT

namespace HT
open Sk
namespace Rd
/-- a text is read by `one` -/
def OneS (S : Nat → FSem) (N : Nat) (w : Txt) (p : Pat) (G G' : Nat) : Prop := (∃ c tl, w = c :: tl ∧ Hd c) ∧ ∀ (T rest : Txt) (i nest : Nat), nest ≤ N → T.drop i = w ++ rest →
  S i_Reader_one [rs T i G, .d (.int nest)] = .ok (.d (enc p)) [rs T ((i + w.length : Nat) : Int) G', .d (.int nest)]
theorem one_part {m N G G' : Nat} {q : Pat} (h : OneS (sem codes (m + 2)) N (ptxt q) q G G') : PartS (sem codes (m + 2)) N q G G' := by
  refine ⟨h.1, fun T rest i nest hn hd hr => ⟨enc q, enc q, i + (ptxt q).length, h.2 T rest i nest hn hd, ?_⟩⟩
  have d1 := drop_go hd
  exact turned_no m T _ G' (enc q) (by rw [d1]; exact hr)
theorem times_part {m N G G' : Nat} {lo : Nat} {hi : Option Nat} {how : How} {p : Pat} (hlo : lo ≤ 9) (hh : hiOk lo hi) (h : OneS (sem codes (m + 4)) N (wrapT p.isCmp (wr p)) p G G') : PartS (sem codes (m + 4)) N (.times lo hi how p) G G' := by
  have hp : ptxt (.times lo hi how p) = wrapT p.isCmp (wr p) ++ 123 :: (48 + lo) :: 44 :: (hiT hi ++ (how.m ++ [125])) := by simp [ptxt, Pat.isAlt, wrapT, wr]
  obtain ⟨⟨c, tl, e, hc⟩, h⟩ := h
  refine ⟨⟨c, tl ++ 123 :: (48 + lo) :: 44 :: (hiT hi ++ (how.m ++ [125])), by rw [hp, e]; rfl, hc⟩, fun T rest i nest hn hd hr => ?_⟩
  rw [hp, List.append_assoc] at hd
  have d1 := drop_go hd
  have h1 := h T _ i nest hn hd
  have h2 := turned_ok m (rest := rest) G' lo hi how (enc p) hlo hh (by rw [d1]; simp)
  refine ⟨enc p, enc (.times lo hi how p), i + (wrapT p.isCmp (wr p)).length, h1, ?_⟩
  have hl : i + (ptxt (.times lo hi how p)).length = i + (wrapT p.isCmp (wr p)).length + 3 + (hiT hi).length + how.m.length + 1 := by rw [hp]; simp; omega
  rw [hl]
  exact h2
theorem wrap_one {m N G G' : Nat} {p : Pat} (hw : WholeS (sem codes (m + 3)) (N + 1) p G G') : OneS (sem codes (m + 5)) N (60 :: 58 :: (wr p ++ [62])) p G G' := by
  refine ⟨⟨60, _, rfl, by unfold Hd; decide⟩, fun T rest i nest hn hd => ?_⟩
  have hd : T.drop i = 60 :: 58 :: (wr p ++ 62 :: rest) := by rw [hd]; simp
  have d1 := drop_one hd
  have h1 := br_plain m (N + 1) p (nest := nest) (by omega) hw d1
  have h2 := one_br (m + 2) (j := i + 1 + 1 + (wr p).length + 1) hd h1
  rw [show i + (60 :: 58 :: (wr p ++ [62]) : Txt).length = i + 1 + 1 + (wr p).length + 1 by simp; omega]
  exact h2
theorem group_one {m N G G' : Nat} {p : Pat} (hw : WholeS (sem codes (m + 3)) (N + 1) p (G + 1) G') : OneS (sem codes (m + 4)) N (wr (.group (G + 1) p)) (.group (G + 1) p) G G' := by
  refine ⟨⟨40, _, rfl, by unfold Hd; decide⟩, fun T rest i nest hn hd => ?_⟩
  have hd : T.drop i = 40 :: (wr p ++ 41 :: rest) := by rw [hd]; simp [wr]
  have h1 := one_group m (N + 1) p (nest := nest) (by omega) hw hd
  rw [show i + (wr (.group (G + 1) p)).length = i + 1 + (wr p).length + 1 by simp [wr]; omega]
  exact h1
theorem look_one {m N G G' : Nat} {k : Look} {p : Pat} (hw : WholeS (sem codes (m + 3)) (N + 1) p G G') : OneS (sem codes (m + 5)) N (wr (.look k p)) (.look k p) G G' := by
  refine ⟨⟨60, _, rfl, by unfold Hd; decide⟩, fun T rest i nest hn hd => ?_⟩
  have hd : T.drop i = 60 :: k.m :: (wr p ++ 62 :: rest) := by rw [hd]; simp [wr]
  have d1 := drop_one hd
  have h1 := br_look m (N + 1) k p (nest := nest) (by omega) hw d1
  have h2 := one_br (m + 2) (j := i + 1 + 1 + (wr p).length + 1) hd h1
  rw [show i + (wr (.look k p)).length = i + 1 + 1 + (wr p).length + 1 by simp [wr]; omega]
  exact h2
theorem have_one {m N k G G1 G2 : Nat} {p q : Pat} (hk : k ≤ 9) (hw : WholeS (sem codes (m + 3)) (N + 1) p G G1) (hw2 : WholeS (sem codes (m + 3)) (N + 1) q G1 G2) : OneS (sem codes (m + 5)) N (wr (.have_ k p q)) (.have_ k p q) G G2 := by
  refine ⟨⟨60, _, rfl, by unfold Hd; decide⟩, fun T rest i nest hn hd => ?_⟩
  have hd : T.drop i = 60 :: (48 + k) :: (wr p ++ 126 :: (wr q ++ 62 :: rest)) := by rw [hd]; simp [wr]
  have d1 := drop_one hd
  have h1 := br_have m (N + 1) k hk p q (nest := nest) (by omega) hw hw2 d1
  have h2 := one_br (m + 2) (j := i + 1 + 1 + (wr p).length + 1 + (wr q).length + 1) hd h1
  rw [show i + (wr (.have_ k p q)).length = i + 1 + 1 + (wr p).length + 1 + (wr q).length + 1 by simp [wr]; omega]
  exact h2
end Rd
end HT

namespace HT
open Sk
namespace Rd
/-- signs, runs, edges, memories -/
def Pat.unit : Pat → Bool
  | .row _ => false
  | .alt _ => false
  | .times _ _ _ _ => false
  | _ => true
theorem sign_hd (c : Nat) : ∃ a tl, sgn special c = a :: tl ∧ Hd a := by
  unfold sgn
  split
  · exact ⟨92, [c], rfl, by unfold Hd; decide⟩
  · rename_i h
    simp [special] at h
    refine ⟨c, [], rfl, ?_⟩
    unfold Hd
    omega
def Pat.leafB : Pat → Bool
  | .sign _ => true
  | .any => true
  | .runs _ _ => true
  | .edge _ => true
  | .again _ => true
  | _ => false
/-- the leaves -/
theorem leaf_one (m N G : Nat) (p : Pat) (d : Nat) (hw : Wf d p) (hp : Pat.leafB p = true) : OneS (sem codes (m + 5)) N (wr p) p G G := by
  cases p with
  | sign c => exact ⟨sign_hd c, fun T rest i nest hn hd => one_sign (m + 2) G (.int nest) c hd⟩
  | any => exact ⟨⟨46, [], rfl, by unfold Hd; decide⟩, fun T rest i nest hn hd => one_any (m + 2) G (.int nest) hd⟩
  | edge e => exact ⟨⟨if e then 36 else 94, [], rfl, by cases e <;> (unfold Hd; decide)⟩, fun T rest i nest hn hd => one_edge (m + 2) G (.int nest) e hd⟩
  | again k =>
    simp only [Wf] at hw
    exact ⟨⟨38, [48 + k], rfl, by unfold Hd; decide⟩, fun T rest i nest hn hd => one_again (m + 1) G (.int nest) k hw.2 hd⟩
  | runs o l =>
    simp only [Wf] at hw
    refine ⟨⟨91, (if o then [94] else []) ++ ((l.map rn).flatten ++ [93]), by cases o <;> simp [wr], by unfold Hd; decide⟩, fun T rest i nest hn hd => ?_⟩
    have hd2 : T.drop i = 91 :: ((if o then [94] else []) ++ ((l.map rn).flatten ++ 93 :: rest)) := by rw [hd]; cases o <;> simp [wr]
    have h1 := one_runs m G (.int nest) o l (by omega) hd2
    rw [show i + (wr (.runs o l)).length = i + 1 + ((if o then [94] else []) ++ ((l.map rn).flatten ++ [93]) : Txt).length by cases o <;> simp [wr] <;> omega]
    exact h1
  | _ => cases hp
end Rd
end HT

namespace HT
open Sk
namespace Rd
def WD (d : Nat) : Prop := ∀ (p : Pat), Wf d p → Rp p → ∀ (m N G G' : Nat), N + d ≤ 16 → num G p = some G' → WholeS (sem codes (m + 4 * d + 8)) N p G G'
theorem unit_d (d : Nat) (hp : ∀ e, d = e + 1 → WD e) (p : Pat) (hu : Pat.unit p = true) (hw : Wf d p) (hr : Rp p) (m N G G' : Nat) (hN : N + d ≤ 16) (hn : num G p = some G') : OneS (sem codes (m + 4 * d + 6)) N (wr p) p G G' := by
  have leaf : ∀ q : Pat, q = p → Pat.leafB q = true → num G q = some G → OneS (sem codes (m + 4 * d + 6)) N (wr p) p G G' := by
    rintro q rfl hl hn2
    rw [hn2] at hn
    cases hn
    exact leaf_one (m + 4 * d + 1) N G q d hw hl
  cases p with
  | sign c => exact leaf _ rfl rfl rfl
  | any => exact leaf _ rfl rfl rfl
  | runs o l => exact leaf _ rfl rfl rfl
  | edge e => exact leaf _ rfl rfl rfl
  | again k => exact leaf _ rfl rfl rfl
  | row _ => cases hu
  | alt _ => cases hu
  | times _ _ _ _ => cases hu
  | group k p =>
    cases d with
    | zero => simp [Wf] at hw
    | succ d =>
      simp only [Wf] at hw
      simp only [Rp] at hr
      simp only [num] at hn
      split at hn
      · rename_i hk
        subst hk
        have h := hp d rfl p hw.2.2 hr (m + 1) (N + 1) (G + 1) G' (by omega) hn
        rw [show m + 1 + 4 * d + 8 = (m + 4 * d + 6) + 3 by omega] at h
        rw [show m + 4 * (d + 1) + 6 = (m + 4 * d + 6) + 4 by omega]
        exact group_one h
      · cases hn
  | look k p =>
    cases d with
    | zero => simp [Wf] at hw
    | succ d =>
      simp only [Wf] at hw
      simp only [Rp] at hr
      simp only [num] at hn
      have h := hp d rfl p hw hr m (N + 1) G G' (by omega) hn
      rw [show m + 4 * d + 8 = (m + 4 * d + 5) + 3 by omega] at h
      rw [show m + 4 * (d + 1) + 6 = (m + 4 * d + 5) + 5 by omega]
      exact look_one h
  | have_ k p q =>
    cases d with
    | zero => simp [Wf] at hw
    | succ d =>
      simp only [Wf] at hw
      simp only [Rp] at hr
      simp only [num] at hn
      cases h1 : num G p with
      | none => rw [h1] at hn; cases hn
      | some G1 =>
        rw [h1] at hn
        have h2 := hp d rfl p hw.2.2.1 hr.1 m (N + 1) G G1 (by omega) h1
        have h3 := hp d rfl q hw.2.2.2 hr.2 m (N + 1) G1 G' (by omega) hn
        rw [show m + 4 * d + 8 = (m + 4 * d + 5) + 3 by omega] at h2 h3
        rw [show m + 4 * (d + 1) + 6 = (m + 4 * d + 5) + 5 by omega]
        exact have_one hw.2.1 h2 h3
/-- a part that is neither row nor branches -/
theorem part_d (d : Nat) (hp : ∀ e, d = e + 1 → WD e) (p : Pat) (hr0 : Pat.isRow p = false) (ha : p.isAlt = false) (hw : Wf d p) (hr : Rp p) (m N G G' : Nat) (hN : N + d ≤ 16) (hn : num G p = some G') : PartS (sem codes (m + 4 * d + 6)) N p G G' := by
  have unit : Pat.unit p = true → PartS (sem codes (m + 4 * d + 6)) N p G G' := fun hu => by
    have h := unit_d d hp p hu hw hr m N G G' hN hn
    have hpt : ptxt p = wr p := by simp [ptxt, ha, wrapT]
    rw [← hpt] at h
    exact one_part (m := m + 4 * d + 4) h
  cases p with
  | row _ => cases hr0
  | alt _ => cases ha
  | times lo hi how q =>
    cases d with
    | zero => simp [Wf] at hw
    | succ d =>
      have hw0 := hw
      simp only [Wf] at hw
      simp only [Rp] at hr
      simp only [num] at hn
      refine times_part (m := m + 4 * (d + 1) + 2) hw.1 (by cases hi with | none => trivial | some u => exact hw.2.1 u rfl) ?_
      by_cases hc : q.isCmp = true
      · rw [hc]
        have h := hp d rfl q hw.2.2 hr m (N + 1) G G' (by omega) hn
        rw [show m + 4 * d + 8 = (m + 4 * d + 5) + 3 by omega] at h
        rw [show m + 4 * (d + 1) + 2 + 4 = (m + 4 * d + 5) + 5 by omega]
        exact wrap_one h
      · rw [Bool.eq_false_iff.mpr hc]
        have hu : Pat.unit q = true := by cases q <;> first | rfl | exact absurd rfl hc
        exact unit_d (d + 1) hp q hu (hw.2.2.mono (by omega)) hr m N G G' hN hn
  | _ => exact unit rfl
end Rd
end HT

namespace HT
open Sk
namespace Rd
theorem alt_part (d : Nat) (hp : WD d) (p : Pat) (ha : p.isAlt = true) (hw : Wf d p) (hr : Rp p) (m N G G' : Nat) (hN : N + 1 + d ≤ 16) (hn : num G p = some G') : PartS (sem codes (m + 4 * d + 10)) N p G G' := by
  have h := hp p hw hr m (N + 1) G G' (by omega) hn
  rw [show m + 4 * d + 8 = (m + 4 * d + 5) + 3 by omega] at h
  have h1 := wrap_one h
  have hpt : ptxt p = 60 :: 58 :: (wr p ++ [62]) := by simp [ptxt, ha, wrapT]
  rw [← hpt] at h1
  exact one_part (m := m + 4 * d + 8) h1
/-- the parts of a row, one level below -/
theorem parts_d (d : Nat) (hp : WD d) (hq : ∀ e, d = e + 1 → WD e) (m N : Nat) (hN : N + (d + 1) ≤ 16) : ∀ (ps : List Pat) (G G' : Nat), Wfs d ps → Rps ps → (∀ q ∈ ps, Pat.isRow q = false) → nums G ps = some G' → PartsS (sem codes (m + 4 * (d + 1) + 6)) N ps G G'
  | [], G, G', hw, hr, hro, hn => by cases hn; exact .nil
  | q :: ps, G, G', hw, hr, hro, hn => by
    simp only [Wfs] at hw
    simp only [Rps] at hr
    simp only [nums] at hn
    cases h1 : num G q with
    | none => rw [h1] at hn; cases hn
    | some G1 =>
      rw [h1] at hn
      refine .cons ?_ (parts_d d hp hq m N hN ps G1 G' hw.2 hr.2 (fun x hx => hro x (List.mem_cons_of_mem _ hx)) hn)
      by_cases ha : q.isAlt = true
      · have := alt_part d hp q ha hw.1 hr.1 m N G G1 (by omega) h1
        rw [show m + 4 * (d + 1) + 6 = m + 4 * d + 10 by omega]
        exact this
      · have := part_d d hq q (hro q List.mem_cons_self) (Bool.eq_false_iff.mpr ha) hw.1 hr.1 (m + 4) N G G1 (by omega) h1
        rw [show m + 4 * (d + 1) + 6 = m + 4 + 4 * d + 6 by omega]
        exact this
/-- a branch of that depth -/
theorem branch_d (d : Nat) (hq : ∀ e, d = e + 1 → WD e) (hq2 : ∀ e, d = e + 2 → WD e) (p : Pat) (ha : p.isAlt = false) (hw : Wf d p) (hr : Rp p) (m N G G' : Nat) (hN : N + d ≤ 16) (hn : num G p = some G') : BranchS (sem codes (m + 4 * d + 7)) N p G G' := by
  by_cases hro : Pat.isRow p = true
  · cases p with
    | row ps =>
      simp only [Rp] at hr
      simp only [num] at hn
      cases d with
      | zero =>
        simp only [Wf] at hw
        have := hw.2
        subst this
        cases hn
        exact branch_row (m + 5) N [] G G (by simp) (by simp) .nil
      | succ d =>
        simp only [Wf] at hw
        have h := parts_d d (hq d rfl) (fun e he => hq2 e (by omega)) m N hN ps G G' hw.2 hr.2.1 hr.2.2 hn
        exact branch_row (m + 4 * (d + 1) + 5) N ps G G' (by omega) hr.1 h
    | _ => cases hro
  · have h := part_d d hq p (Bool.eq_false_iff.mpr hro) ha hw hr m N G G' hN hn
    exact branch_one (m + 4 * d + 5) N p ha G G' h
theorem branches_d (d : Nat) (hp : WD d) (hq : ∀ e, d = e + 1 → WD e) (hq2 : ∀ e, d = e + 2 → WD e) (m N : Nat) (hN : N + d ≤ 16) : ∀ (ps : List Pat) (G G' : Nat), Wfs d ps → Rps ps → (∀ q ∈ ps, q.isAlt = false) → nums G ps = some G' → BranchesS (sem codes (m + 4 * d + 7)) N ps G G'
  | [], G, G', hw, hr, hro, hn => by cases hn; exact .nil
  | q :: ps, G, G', hw, hr, hro, hn => by
    simp only [Wfs] at hw
    simp only [Rps] at hr
    simp only [nums] at hn
    cases h1 : num G q with
    | none => rw [h1] at hn; cases hn
    | some G1 =>
      rw [h1] at hn
      exact .cons (branch_d d hq hq2 q (hro q List.mem_cons_self) hw.1 hr.1 m N G G1 hN h1) (branches_d d hp hq hq2 m N hN ps G1 G' hw.2 hr.2 (fun x hx => hro x (List.mem_cons_of_mem _ hx)) hn)
theorem whole_d (d : Nat) (hq : ∀ e, e < d → WD e) : WD d := by
  intro p hw hr m N G G' hN hn
  by_cases ha : p.isAlt = true
  · cases p with
    | alt ps =>
      cases d with
      | zero => simp [Wf] at hw
      | succ d =>
        simp only [Wf] at hw
        simp only [Rp] at hr
        simp only [num] at hn
        have hb := branches_d d (hq d (by omega)) (fun e he => hq e (by omega)) (fun e he => hq e (by omega)) (m + 4) N (by omega) ps G G' hw.2.2 hr.1 hr.2 hn
        cases hb with
        | nil => simp at hw
        | @cons q ps _ G1 _ h0 h1 =>
          rw [show m + 4 + 4 * d + 7 = m + 4 * (d + 1) + 6 + 1 by omega] at h0 h1
          refine whole_alt (m + 4 * (d + 1) + 6) N (by omega) q ps ?_ (by simp at hw; omega) G G1 G' h0 h1
          rintro rfl
          simp at hw
    | _ => cases ha
  · have h := branch_d d (fun e he => hq e (by omega)) (fun e he => hq e (by omega)) p (Bool.eq_false_iff.mpr ha) hw hr m N G G' hN hn
    exact whole_one (m + 4 * d + 6) N (by omega) p G G' h
theorem whole_all (d : Nat) : WD d := by
  induction d using Nat.strongRecOn with
  | ind d ih => exact whole_d d ih
end Rd
end HT

namespace HT
open Sk
namespace Rd
end Rd
end HT

namespace HT
open Sk
namespace Rd
theorem look_parts (S S' : Nat → FSem) (K deep : Nat) (x0 x3 x4 x5 : A) : ∀ (ps : List Pat) (many : Nat) (y : A), freeA y = true → (∀ q ∈ ps, S i_look_at [.d (enc q), .d (.int K), .d (.int ((deep : Int) + 1))] = .ok (.d (.int q.nd)) [.d (enc q), .d (.int K), .d (.int ((deep : Int) + 1))]) →
    ∃ y', forL 7 (l_look_at_2 S S') (encs ps) [x0, .d (.int K), .d (.int deep), x3, x4, x5, .d (.int many), y] = .nx [x0, .d (.int K), .d (.int deep), x3, x4, x5, .d (.int ((many + nds ps : Nat) : Int)), y']
  | [], many, y, hy, h => ⟨y, by simp [encs, nds]⟩
  | q :: ps, many, y, hy, h => by
    have h1 := h q List.mem_cons_self
    obtain ⟨y', ih⟩ := look_parts S S' K deep x0 x3 x4 x5 ps (many + q.nd) (.d (enc q)) rfl fun x hx => h x (List.mem_cons_of_mem _ hx)
    refine ⟨y', ?_⟩
    rw [show many + nds (q :: ps) = many + q.nd + nds ps by simp [nds]; omega, show encs (q :: ps) = enc q :: encs ps from rfl, ← ih]
    rw [show ((many + q.nd : Nat) : Int) = (many : Int) + (q.nd : Int) from rfl]
    generalize enc q = E at *
    generalize (q.nd : Int) = Q at *
    rw [forL_go (r1 := [x0, .d (.int K), .d (.int deep), x3, x4, x5, .d (.int ((many : Int) + Q)), .d E]) (by simpa using hy) (by simp) (by simp -implicitDefEqProofs [l_look_at_2, h1])]
theorem look_runs (S S' : Nat → FSem) (x0 x1 x2 x3 x4 x6 x7 : A) : ∀ (l : List (Nat × Nat)) (y : A), freeA y = true → (∀ r ∈ l, r.1 ≤ r.2) →
    ∃ y', freeA y' = true ∧ forL 5 (l_look_at_1 S S') (l.map encR) [x0, x1, x2, x3, x4, y, x6, x7] = .nx [x0, x1, x2, x3, x4, y', x6, x7]
  | [], y, hy, h => ⟨y, hy, by simp⟩
  | r :: l, y, hy, h => by
    have h1 := h r List.mem_cons_self
    obtain ⟨y', f, ih⟩ := look_runs S S' x0 x1 x2 x3 x4 x6 x7 l (.d (encR r)) rfl fun x hx => h x (List.mem_cons_of_mem _ hx)
    refine ⟨y', f, ?_⟩
    rw [List.map_cons, ← ih]
    have h2 : ¬ (r.2 : Int) < (r.1 : Int) := by omega
    rw [forL_go (r1 := [x0, x1, x2, x3, x4, .d (encR r), x6, x7]) (by simpa using hy) (by simp) (by
      rw [show encR r = .tup [.str [r.1], .str [r.2]] from rfl]
      simp -implicitDefEqProofs [l_look_at_1, h1, h2])]
end Rd
end HT

namespace HT
open Sk
namespace Rd
theorem lk_mem {K : Nat} : ∀ {ps : List Pat}, Lks K ps → ∀ q ∈ ps, Lk K q
  | [], _, q, hq => by cases hq
  | x :: xs, h, q, hq => by
    simp only [Lks] at h
    rcases List.mem_cons.mp hq with e | e
    · rw [e]; exact h.1
    · exact lk_mem h.2 q e
theorem look_at_ok (K : Nat) : ∀ (d n : Nat) (p : Pat), Wf d p → Lk K p → p.nd ≤ 60 → ∀ deep : Nat, deep + d ≤ 8 → sem codes (n + d + 2) i_look_at [.d (enc p), .d (.int K), .d (.int deep)] = .ok (.d (.int p.nd)) [.d (enc p), .d (.int K), .d (.int deep)]
  | d, n, p, wp, hk, hnd, deep, hdp => by
    rw [sem_c rfl]
    have hpo := parts_of_ok (n + d) p
    obtain ⟨hk2, hlen⟩ := lk_parts hk
    have hnp := nd_parts p
    have ih : ∀ q ∈ p.parts, sem codes (n + d + 1) i_look_at [.d (enc q), .d (.int K), .d (.int ((deep : Int) + 1))] = .ok (.d (.int q.nd)) [.d (enc q), .d (.int K), .d (.int ((deep : Int) + 1))] := by
      intro q hq
      have hq2 := nd_mem hq
      match d, wp, hdp with
      | 0, wp, hdp => rw [wp.parts0] at hq; cases hq
      | d + 1, wp, hdp => exact look_at_ok K d n q (wp.parts.mem hq) (lk_mem hk2 q hq) (by omega) (deep + 1) (by omega)
    generalize sem codes (n + d + 1) = S at *
    generalize sem' codes (n + d + 1) = S' at *
    have hd8 : ¬ (8 : Int) < deep := by omega
    have hn1 : (1 + nds p.parts : Nat) = p.nd := by omega
    have hn2 : ¬ (60 : Int) < 1 + (nds p.parts : Int) := by omega
    have LP := fun x0 x3 x4 x5 y hy => look_parts S S' K deep x0 x3 x4 x5 p.parts 1 y hy ih
    rw [← hn1]
    have hl8 : ¬ (8 : Int) < (p.parts.length : Int) := by omega
    have hfit : Fit1 (encs p.parts).length := by rw [encs_len]; exact fit1_of (by omega)
    have hle := encs_len p.parts
    cases p with
    | runs o l =>
      simp only [Wf] at wp
      obtain ⟨w1, w2, w3⟩ := wp
      obtain ⟨y', fy, e1⟩ := look_runs S S' (.d (enc (.runs o l))) (.d (.int K)) (.d (.int deep)) (.d (.str (Pat.runs o l).w)) (.d (.lst [])) .un .un l .un rfl (fun r hr => (w3 r hr).2.2)
      have w1' : (1 : Int) ≤ l.length := by omega
      have w2' : (l.length : Int) ≤ 8 := by omega
      have fl : Fit1 (l.map encR).length := by rw [List.length_map]; exact fit1_of (by omega)
      rw [List.length_map] at fl
      simp only [Pat.parts, encs] at hpo
      cases o <;> simp -implicitDefEqProofs [Pat.w, enc] at e1 hpo <;> simp -implicitDefEqProofs [c_look_at, hpo, hd8, enc, inD, flatD, sameD, w1', w2', fl, e1, Pat.parts, nds]
    | again k =>
      simp only [Lk] at hk
      have k1 : (1 : Int) ≤ k := by omega
      have k2 : (k : Int) ≤ K := by omega
      simp only [Pat.parts, encs] at hpo
      simp -implicitDefEqProofs [enc] at hpo
      simp -implicitDefEqProofs [c_look_at, hpo, hd8, enc, inD, flatD, sameD, k1, k2, Pat.parts, nds]
    | have_ k p q =>
      simp only [Lk] at hk
      have k1 : (1 : Int) ≤ k := by omega
      have k2 : (k : Int) ≤ K := by omega
      obtain ⟨y', e1⟩ := LP (.d (enc (.have_ k p q))) (.d (.str (Pat.have_ k p q).w)) (.d (.lst (encs (Pat.have_ k p q).parts))) .un .un rfl
      generalize encs (Pat.have_ k p q).parts = E at *
      simp -implicitDefEqProofs [enc, Pat.w] at hpo e1
      simp -implicitDefEqProofs [c_look_at, hpo, hd8, enc, inD, flatD, sameD, k1, k2, hle, hl8, hfit, e1, hn2]
    | look k p =>
      obtain ⟨y', e1⟩ := LP (.d (enc (.look k p))) (.d (.str (Pat.look k p).w)) (.d (.lst (encs (Pat.look k p).parts))) .un .un rfl
      generalize encs (Pat.look k p).parts = E at *
      cases k <;> simp -implicitDefEqProofs [enc, Pat.w, Look.t] at hpo e1 <;> simp -implicitDefEqProofs [c_look_at, hpo, hd8, enc, inD, flatD, sameD, Look.t, hle, hl8, hfit, e1, hn2]
    | edge o =>
      simp only [Pat.parts, encs] at hpo
      cases o <;> simp -implicitDefEqProofs [enc] at hpo <;> simp -implicitDefEqProofs [c_look_at, hpo, hd8, enc, inD, flatD, sameD, Pat.parts, nds]
    | sign c =>
      simp only [Pat.parts, encs] at hpo
      simp -implicitDefEqProofs [enc] at hpo
      simp -implicitDefEqProofs [c_look_at, hpo, hd8, enc, inD, flatD, sameD, Pat.parts, nds]
    | any =>
      simp only [Pat.parts, encs] at hpo
      simp -implicitDefEqProofs [enc] at hpo
      simp -implicitDefEqProofs [c_look_at, hpo, hd8, enc, inD, flatD, sameD, Pat.parts, nds]
    | row ps =>
      obtain ⟨y', e1⟩ := LP (.d (enc (.row ps))) (.d (.str (Pat.row ps).w)) (.d (.lst (encs (Pat.row ps).parts))) .un .un rfl
      generalize encs (Pat.row ps).parts = E at *
      simp -implicitDefEqProofs [enc, Pat.w] at hpo e1
      simp -implicitDefEqProofs [c_look_at, hpo, hd8, enc, inD, flatD, sameD, hle, hl8, hfit, e1, hn2]
    | alt ps =>
      obtain ⟨y', e1⟩ := LP (.d (enc (.alt ps))) (.d (.str (Pat.alt ps).w)) (.d (.lst (encs (Pat.alt ps).parts))) .un .un rfl
      generalize encs (Pat.alt ps).parts = E at *
      simp -implicitDefEqProofs [enc, Pat.w] at hpo e1
      simp -implicitDefEqProofs [c_look_at, hpo, hd8, enc, inD, flatD, sameD, hle, hl8, hfit, e1, hn2]
    | group k p =>
      obtain ⟨y', e1⟩ := LP (.d (enc (.group k p))) (.d (.str (Pat.group k p).w)) (.d (.lst (encs (Pat.group k p).parts))) .un .un rfl
      generalize encs (Pat.group k p).parts = E at *
      simp -implicitDefEqProofs [enc, Pat.w] at hpo e1
      simp -implicitDefEqProofs [c_look_at, hpo, hd8, enc, inD, flatD, sameD, hle, hl8, hfit, e1, hn2]
    | times lo hi how p =>
      obtain ⟨y', e1⟩ := LP (.d (enc (.times lo hi how p))) (.d (.str (Pat.times lo hi how p).w)) (.d (.lst (encs (Pat.times lo hi how p).parts))) .un .un rfl
      generalize encs (Pat.times lo hi how p).parts = E at *
      simp -implicitDefEqProofs [enc, Pat.w] at hpo e1
      simp -implicitDefEqProofs [c_look_at, hpo, hd8, enc, inD, flatD, sameD, hle, hl8, hfit, e1, hn2]
end Rd
end HT

namespace HT
open Sk
namespace Ex
/-- how many brackets there are, counted -/
theorem total_ok (T : Txt) (hl : T.length ≤ 20000) (x0 x1 x2 x4 x6 x7 x8 : A) : ∃ acc : List D, compL 5 (eOp opEq (eOp opItemS (eVar 3) (eVar 5)) (eC (.str [40]))) (eC (.int 0)) (upTo 0 T.length) [] [x0, x1, x2, .d (.str T), x4, .un, x6, x7, x8] = .ok acc [x0, x1, x2, .d (.str T), x4, .un, x6, x7, x8] ∧ acc.length = T.count 40 := by
  obtain ⟨acc, r, e, rfl, h2⟩ := comp_nx (i := 5) (t := eOp opEq (eOp opItemS (eVar 3) (eVar 5)) (eC (.str [40]))) (e := eC (.int 0)) (xs := upTo 0 T.length) (fun j acc r => r = [x0, x1, x2, .d (.str T), x4, .un, x6, x7, x8] ∧ acc.length = (T.take j).count 40) (acc := []) (r := [x0, x1, x2, .d (.str T), x4, .un, x6, x7, x8]) ⟨rfl, by simp⟩ (by
    rintro j x acc r hx ⟨rfl, ha⟩
    obtain ⟨hx1, hj⟩ := get_upTo hx
    rw [Int.zero_add] at hx1
    have hi := item_nat T j hj
    have ht : T.take (j + 1) = T.take j ++ [T[j]] := by rw [List.take_succ, List.getElem?_eq_getElem hj]; rfl
    have hc : (T.take j).count 40 ≤ (T.take j).length := List.count_le_length
    have hfit : Fit1 acc.length := fit1_of (by rw [ha]; simp at hc; omega)
    subst hx1
    by_cases h40 : T[j] = 40
    · left
      refine ⟨[x0, x1, x2, .d (.str T), x4, .d (.int j), x6, x7, x8], _, [x0, x1, x2, .d (.str T), x4, .d (.int j), x6, x7, x8], by simp -implicitDefEqProofs [hi, h40], rfl, hfit, rfl, ?_⟩
      rw [ht, List.count_append, h40]; simp; exact ha
    · right
      refine ⟨[x0, x1, x2, .d (.str T), x4, .d (.int j), x6, x7, x8], by simp -implicitDefEqProofs [hi, h40], rfl, ?_⟩
      rw [ht, List.count_append, ha]
      have : List.count 40 [T[j]] = 0 := by rw [List.count_eq_zero]; simp; exact fun z => h40 z.symm
      omega)
  refine ⟨acc, e, ?_⟩
  rw [h2, len_upTo, List.take_length]
/-- how many numbers of groups fit -/
theorem seen_ok (S : Nat → FSem) (E : D) (K m : Nat) (hm : m ≤ 20000) (hg : ∀ t : Nat, S i_law_good [.d E, .d (.int t)] = .ok (.d (.bl (decide (t = K)))) [.d E, .d (.int t)]) (x0 x1 x2 x3 x4 x7 x8 : A) : ∃ acc : List D, compL 5 (eCall (S i_law_good) (aCons (eVar 6) (aCons (eOp opAdd (eVar 5) (eC (.int 1))) aNil))) (eC (.int 0)) (upTo 0 m) [] [x0, x1, x2, x3, x4, .un, .d E, x7, x8] = .ok acc [x0, x1, x2, x3, x4, .un, .d E, x7, x8] ∧ acc.length = if 1 ≤ K ∧ K ≤ m then 1 else 0 := by
  obtain ⟨acc, r, e, rfl, h2⟩ := comp_nx (i := 5) (t := eCall (S i_law_good) (aCons (eVar 6) (aCons (eOp opAdd (eVar 5) (eC (.int 1))) aNil))) (e := eC (.int 0)) (xs := upTo 0 m) (fun j acc r => r = [x0, x1, x2, x3, x4, .un, .d E, x7, x8] ∧ acc.length = if 1 ≤ K ∧ K ≤ j then 1 else 0) (acc := []) (r := [x0, x1, x2, x3, x4, .un, .d E, x7, x8]) ⟨rfl, by rw [if_neg (by omega)]; rfl⟩ (by
    rintro j x acc r hx ⟨rfl, ha⟩
    obtain ⟨hx1, hj⟩ := get_upTo hx
    rw [Int.zero_add] at hx1
    have h1 := hg (j + 1)
    have h1 : S i_law_good [.d E, .d (.int ((j : Int) + 1))] = .ok (.d (.bl (decide (j + 1 = K)))) [.d E, .d (.int ((j : Int) + 1))] := h1
    have hfit : Fit1 acc.length := fit1_of (by rw [ha]; split <;> omega)
    subst hx1
    by_cases hK : j + 1 = K
    · left
      refine ⟨[x0, x1, x2, x3, x4, .d (.int j), .d E, x7, x8], _, [x0, x1, x2, x3, x4, .d (.int j), .d E, x7, x8], by simp -implicitDefEqProofs [h1, hK], rfl, hfit, rfl, ?_⟩
      rw [if_pos (by omega)]
      rw [if_neg (by omega)] at ha
      simp [ha]
    · right
      refine ⟨[x0, x1, x2, x3, x4, .d (.int j), .d E, x7, x8], by simp -implicitDefEqProofs [h1, hK], rfl, ?_⟩
      rw [ha]
      by_cases h : 1 ≤ K ∧ K ≤ j
      · rw [if_pos h, if_pos (by omega)]
      · rw [if_neg h, if_neg (by omega)])
  refine ⟨acc, e, ?_⟩
  rw [h2, len_upTo]
mutual
theorem Wf.rw : ∀ {d : Nat} {p : Pat}, Wf d p → Rw d p
  | _, .sign c, h => by simpa [Wf, Rw] using h
  | _, .any, _ => by simp [Rw]
  | _, .runs _ rs, h => by simp only [Wf] at h; simp only [Rw]; exact ⟨by omega, fun r hr => ⟨(h.2.2 r hr).1, (h.2.2 r hr).2.1⟩⟩
  | _, .edge _, _ => by simp [Rw]
  | _, .again n, h => by simp only [Wf] at h; simp only [Rw]; omega
  | 0, .row ps, h => by simp [Wf] at h; simp [Rw, h.2]
  | d + 1, .row ps, h => by simp only [Wf] at h; simp only [Rw]; exact ⟨by omega, Wfs.rw h.2⟩
  | 0, .alt ps, h => by simp [Wf] at h
  | d + 1, .alt ps, h => by simp only [Wf] at h; simp only [Rw]; exact ⟨h.1, by omega, Wfs.rw h.2.2⟩
  | 0, .times _ _ _ p, h => by simp [Wf] at h
  | d + 1, .times lo hi _ p, h => by
    simp only [Wf] at h; simp only [Rw]
    refine ⟨h.1, ?_, Wf.rw h.2.2⟩
    cases hi with
    | none => trivial
    | some u => exact h.2.1 u rfl
  | 0, .group _ p, h => by simp [Wf] at h
  | d + 1, .group _ p, h => by simp only [Wf] at h; simp only [Rw]; exact Wf.rw h.2.2
  | 0, .have_ _ p q, h => by simp [Wf] at h
  | d + 1, .have_ _ p q, h => by simp only [Wf] at h; simp only [Rw]; exact ⟨h.2.1, Wf.rw h.2.2.1, Wf.rw h.2.2.2⟩
  | 0, .look _ p, h => by simp [Wf] at h
  | d + 1, .look _ p, h => by simp only [Wf] at h; simp only [Rw]; exact Wf.rw h
theorem Wfs.rw : ∀ {d : Nat} {p : List Pat}, Wfs d p → Rws d p
  | _, [], _ => by simp [Rws]
  | _, p :: ps, h => by simp only [Wfs] at h; simp only [Rws]; exact ⟨Wf.rw h.1, Wfs.rw h.2⟩
end
open Rd in
/-- what was told once is told at every level -/
theorem read_back (n : Nat) (p : Pat) (K : Nat) (hg : Good p K) : sem codes (n + 71) i_read_pattern [.d (.str (wr p))] = .ok (.d (enc p)) [.d (.str (wr p))] := by
  obtain ⟨hw, lk, hn, rp, hK, hK9⟩ := hg
  have h1 := whole_all 7 p hw rp (n + 34) 1 0 K (by omega) hK (wr p) [] 0 1 (by omega) (by simp) (.inl rfl)
  have h2 := ahead_ok (n + 69) (wr p) (wr p).length K
  have h3 := groups_in_any 7 (n + 61) p (Wf.rw hw)
  have h4 := look_at_ok K 7 (n + 61) p hw lk hn 1 (by omega)
  have h5 := pt_ok 7 (n + 53) p hw (by omega)
  have hng := num_ng hK
  have h0 := init_ok (n + 68) (wr p)
  rw [show n + 68 + 1 = n + 69 from rfl, show sem codes (n + 69) i_Reader___init__ = sem' codes (n + 70) i_Reader___init__ from sem'_succ.symm] at h0
  rw [show n + 34 + 4 * 7 + 8 = n + 70 from rfl] at h1
  rw [show n + 69 + 1 = n + 70 from rfl] at h2
  rw [show n + 61 + 7 + 2 = n + 70 from rfl] at h3 h4
  rw [show n + 53 + 2 * 7 + 3 = n + 70 from rfl] at h5
  rw [List.drop_length] at h2
  rw [Nat.zero_add] at h1 hng
  rw [hng] at h3
  have hK9' : ¬ (9 : Int) < (K : Int) := by omega
  have h1 : sem codes (n + 70) i_Reader_whole [rs (wr p) 0 0, .d (.int 1)] = .ok (.d (enc p)) [rs (wr p) ((wr p).length : Int) K, .d (.int 1)] := h1
  have h2 : sem codes (n + 70) i_Reader_ahead [rs (wr p) ((wr p).length : Int) K] = .ok (.d (.str [])) [rs (wr p) ((wr p).length : Int) K] := h2
  have h4 : sem codes (n + 70) i_look_at [.d (enc p), .d (.int K), .d (.int 1)] = .ok (.d (.int p.nd)) [.d (enc p), .d (.int K), .d (.int 1)] := h4
  rw [sem_c rfl]
  generalize sem codes (n + 70) = S at *
  generalize sem' codes (n + 70) = S' at *
  generalize ((wr p).length : Int) = L at *
  generalize wr p = W at *
  generalize enc p = E at *
  simp -implicitDefEqProofs [c_read_pattern, h0, h1, h2, h3, h4, h5, hK9']
theorem law_ok (n : Nat) (ns : List Int) : ∃ outs, sem codes (n + 80) i_law [.d (.scr ns)] = .ok (.d (.bl true)) outs := by
  rw [sem_c rfl]
  obtain ⟨a, b, c, xs1, h1, ha, hb, hc⟩ := letters_ok (n + 77) ns
  have h1 : sem codes (n + 79) i_law_letters [.own true (bxs ns)] = .ok (.own (L3 a b c)) [.own true (bxs xs1)] := h1
  obtain ⟨T, xs2, h2, hT, hl⟩ := line_ok (n + 48) ha hb hc xs1
  rw [show n + 48 + 31 = n + 79 from rfl] at h2
  have hr : okR (T.length : Int) := okR_of (by omega) (by omega)
  have hcl : T.count 40 ≤ T.length := List.count_le_length
  have hr2 : okR ((T.count 40 : Nat) : Int) := okR_of (by omega) (by omega)
  rcases read_any (n + 8) T hT (by omega) with h3 | ⟨p, K, h3, hw, hg⟩
  · have h3' : sem codes (n + 78) i_read_pattern [.d (.str T)] = .exc "Unread" := by
      rcases read_any (n + 7) T hT (by omega) with h | ⟨p, K, h⟩
      · exact h
      · rw [← h.2.1, read_back (n + 8) p K h.2.2] at h3
        cases h3
    have h4 := refused_ok (n + 77) T h3'
    obtain ⟨acc, h5, h6⟩ := total_ok T hl (.d (.scr ns)) (.own false (bxs xs2)) (.d (.lst (L3 a b c))) .un .un .un .un
    rw [show n + 8 + 71 = n + 79 from rfl] at h3
    rw [show n + 77 + 2 = n + 79 from rfl] at h4
    generalize sem codes (n + 79) = S at *
    generalize sem' codes (n + 79) = S' at *
    generalize L3 a b c = l3 at *
    exact ⟨_, by simp -implicitDefEqProofs [c_law, h1, h2, hr, h5, h3, h4, List.lookup]; rfl⟩
  · obtain ⟨acc, h5, h6⟩ := total_ok T hl (.d (.scr ns)) (.own false (bxs xs2)) (.d (.lst (L3 a b c))) .un .un .un .un
    rw [show n + 8 + 71 = n + 79 from rfl] at h3
    have hgd := fun t => good_ok (n + 67) p K t hg
    rw [show n + 67 + 12 = n + 79 from rfl] at hgd
    have hlw := lw_okW 7 (n + 61) p (Wf.ww hg.wf) (by have := hg.nd; omega)
    rw [show n + 61 + 2 * 7 + 4 = n + 79 from rfl, hw] at hlw
    have hK : K ≤ T.count 40 := by
      have h1 := ng_cnt p
      have h2 := num_ng hg.nm
      rw [hw] at h1
      omega
    obtain ⟨acc2, h7, h8⟩ := seen_ok (sem codes (n + 79)) (enc p) K (T.count 40) (by omega) hgd (.d (.scr ns)) (.own false (bxs xs2)) (.d (.lst (L3 a b c))) (.d (.str T)) (.d (.int (T.count 40 : Nat))) (.d (.bl false)) .un
    have hg0 := hgd 0
    have hg0 : sem codes (n + 79) i_law_good [.d (enc p), .d (.int 0)] = .ok (.d (.bl (decide (0 = K)))) [.d (enc p), .d (.int 0)] := hg0
    clear hg hgd
    have h6' : (acc.length : Int) = (T.count 40 : Nat) := by omega
    generalize hcc : T.count 40 = C at *
    generalize sem codes (n + 79) = S at *
    generalize sem' codes (n + 79) = S' at *
    generalize L3 a b c = l3 at *
    generalize enc p = E at *
    by_cases hK0 : K = 0
    · subst hK0
      exact ⟨_, by simp -implicitDefEqProofs [c_law, h1, h2, hr, h5, h3, h6, hr2, h7, hg0, hlw]; rfl⟩
    · have h9 : acc2.length = 1 := by rw [h8, if_pos (by omega)]
      have hK1 : ¬ 0 = K := by omega
      exact ⟨_, by simp -implicitDefEqProofs [c_law, h1, h2, hr, h5, h3, h6, hr2, h7, hg0, hK1, h9, hlw]; rfl⟩
end Ex
theorem sem_law (ns : List Int) : ∃ outs, sem codes 229 i_law [.d (.scr ns)] = .ok (.d (.bl true)) outs := Ex.law_ok 149 ns
end HT

namespace HT
open PySem PySem.Spec PyProof.Rows L2 Sk SkS
def top (i : Nat) : Stmt := PySem.Challenge.pw_seek_k05_whole_texts_read.main.body.getD i (.Pass ⟨0, 0, 0, 0⟩)
def clsBody : Stmt → List Stmt
  | .ClassDef (body := b) .. => b
  | _ => []
def mtop (i j : Nat) : Stmt := (clsBody (top i)).getD j (.Pass ⟨0, 0, 0, 0⟩)
def s0 : Stmt := top 8
def D0 : DefI := ⟨⟨("parts_of", none), "parts_of", "parts_of", defArgs s0, defBody s0, defScope s0, [], []⟩, "", ["pattern", "word"], ["pattern"]⟩
def s1 : Stmt := top 9
def D1 : DefI := ⟨⟨("groups_in", none), "groups_in", "groups_in", defArgs s1, defBody s1, defScope s1, [], []⟩, "", ["pattern", "many", "part"], ["pattern"]⟩
def s2 : Stmt := top 19
def D2 : DefI := ⟨⟨("sign_text", none), "sign_text", "sign_text", defArgs s2, defBody s2, defScope s2, [], []⟩, "", ["sign", "special"], ["sign", "special"]⟩
def s3 : Stmt := top 20
def D3 : DefI := ⟨⟨("runs_text", none), "runs_text", "runs_text", defArgs s3, defBody s3, defScope s3, [], []⟩, "", ["runs", "found", "run"], ["runs"]⟩
def s4 : Stmt := top 21
def D4 : DefI := ⟨⟨("times_text", none), "times_text", "times_text", defArgs s4, defBody s4, defScope s4, [], []⟩, "", ["pattern", "part", "high", "how"], ["pattern"]⟩
def s5 : Stmt := top 22
def D5 : DefI := ⟨⟨("row_text", none), "row_text", "row_text", defArgs s5, defBody s5, defScope s5, [], []⟩, "", ["parts", "found", "part", "told"], ["parts"]⟩
def s6 : Stmt := top 23
def D6 : DefI := ⟨⟨("pattern_text", none), "pattern_text", "pattern_text", defArgs s6, defBody s6, defScope s6, [], []⟩, "", ["pattern", "word", "part"], ["pattern"]⟩
def s7 : Stmt := mtop 24 0
def D7 : DefI := ⟨⟨("Reader", some "__init__"), "__init__", "Reader.__init__", defArgs s7, defBody s7, defScope s7, [], []⟩, "Reader", ["self", "text"], ["self", "text"]⟩
def s8 : Stmt := mtop 24 1
def D8 : DefI := ⟨⟨("Reader", some "ahead"), "ahead", "Reader.ahead", defArgs s8, defBody s8, defScope s8, [], []⟩, "Reader", ["self"], ["self"]⟩
def s9 : Stmt := mtop 24 2
def D9 : DefI := ⟨⟨("Reader", some "take"), "take", "Reader.take", defArgs s9, defBody s9, defScope s9, [], []⟩, "Reader", ["self", "sign"], ["self"]⟩
def s10 : Stmt := mtop 24 3
def D10 : DefI := ⟨⟨("Reader", some "want"), "want", "Reader.want", defArgs s10, defBody s10, defScope s10, [], []⟩, "Reader", ["self", "sign"], ["self", "sign"]⟩
def s11 : Stmt := mtop 24 4
def D11 : DefI := ⟨⟨("Reader", some "figure"), "figure", "Reader.figure", defArgs s11, defBody s11, defScope s11, [], []⟩, "Reader", ["self", "sign"], ["self"]⟩
def s12 : Stmt := mtop 24 5
def D12 : DefI := ⟨⟨("Reader", some "whole"), "whole", "Reader.whole", defArgs s12, defBody s12, defScope s12, [], []⟩, "Reader", ["self", "nest", "branches"], ["self", "nest"]⟩
def s13 : Stmt := mtop 24 6
def D13 : DefI := ⟨⟨("Reader", some "branch"), "branch", "Reader.branch", defArgs s13, defBody s13, defScope s13, [], []⟩, "Reader", ["self", "nest", "parts"], ["self", "nest"]⟩
def s14 : Stmt := mtop 24 7
def D14 : DefI := ⟨⟨("Reader", some "turned"), "turned", "Reader.turned", defArgs s14, defBody s14, defScope s14, [], []⟩, "Reader", ["self", "part", "low", "high", "how"], ["self", "part"]⟩
def s15 : Stmt := mtop 24 8
def D15 : DefI := ⟨⟨("Reader", some "one"), "one", "Reader.one", defArgs s15, defBody s15, defScope s15, [], []⟩, "Reader", ["self", "nest", "sign", "number", "part", "words"], ["self", "nest"]⟩
def s16 : Stmt := mtop 24 9
def D16 : DefI := ⟨⟨("Reader", some "bracket"), "bracket", "Reader.bracket", defArgs s16, defBody s16, defScope s16, [], []⟩, "Reader", ["self", "nest", "sign", "part", "words", "word", "one"], ["self", "nest"]⟩
def s17 : Stmt := mtop 24 10
def D17 : DefI := ⟨⟨("Reader", some "signs"), "signs", "Reader.signs", defArgs s17, defBody s17, defScope s17, [], []⟩, "Reader", ["self", "word", "runs", "low", "high"], ["self"]⟩
def s18 : Stmt := mtop 24 11
def D18 : DefI := ⟨⟨("Reader", some "within"), "within", "Reader.within", defArgs s18, defBody s18, defScope s18, [], []⟩, "Reader", ["self", "sign"], ["self"]⟩
def s19 : Stmt := top 25
def D19 : DefI := ⟨⟨("look_at", none), "look_at", "look_at", defArgs s19, defBody s19, defScope s19, [], []⟩, "", ["pattern", "groups", "deep", "word", "parts", "run", "many", "part"], ["pattern", "groups", "deep"]⟩
def s20 : Stmt := top 26
def D20 : DefI := ⟨⟨("read_pattern", none), "read_pattern", "read_pattern", defArgs s20, defBody s20, defScope s20, [], []⟩, "", ["text", "reader", "found", "groups"], ["text"]⟩
def s21 : Stmt := top 28
def D21 : DefI := ⟨⟨("_law_take", none), "_law_take", "_law_take", defArgs s21, defBody s21, defScope s21, [], []⟩, "", ["_law_box", "_law_many", "_law_number_here"], ["_law_box", "_law_many"]⟩
def s22 : Stmt := top 29
def D22 : DefI := ⟨⟨("_law_sign", none), "_law_sign", "_law_sign", defArgs s22, defBody s22, defScope s22, [], []⟩, "", ["_law_cell", "_law_some"], ["_law_cell"]⟩
def s23 : Stmt := top 30
def D23 : DefI := ⟨⟨("_law_letters", none), "_law_letters", "_law_letters", defArgs s23, defBody s23, defScope s23, [], []⟩, "", ["_law_box", "_law_k"], ["_law_box"]⟩
def s24 : Stmt := top 31
def D24 : DefI := ⟨⟨("_law_runs", none), "_law_runs", "_law_runs", defArgs s24, defBody s24, defScope s24, [], []⟩, "", ["_law_box", "_law_letters_here", "_law_runs_here", "_law_k", "_law_one", "_law_two"], ["_law_box", "_law_letters_here"]⟩
def s25 : Stmt := top 32
def D25 : DefI := ⟨⟨("_law_leaf", none), "_law_leaf", "_law_leaf", defArgs s25, defBody s25, defScope s25, [], []⟩, "", ["_law_box", "_law_letters_here", "_law_count", "_law_kind"], ["_law_box", "_law_letters_here", "_law_count"]⟩
def s26 : Stmt := top 33
def D26 : DefI := ⟨⟨("_law_parts", none), "_law_parts", "_law_parts", defArgs s26, defBody s26, defScope s26, [], []⟩, "", ["_law_box", "_law_letters_here", "_law_count", "_law_deep", "_law_word", "_law_parts_here", "_law_k", "_law_part"], ["_law_box", "_law_letters_here", "_law_count", "_law_deep", "_law_word"]⟩
def s27 : Stmt := top 34
def D27 : DefI := ⟨⟨("_law_times", none), "_law_times", "_law_times", defArgs s27, defBody s27, defScope s27, [], []⟩, "", ["_law_box", "_law_letters_here", "_law_count", "_law_deep", "_law_low", "_law_high", "_law_how"], ["_law_box", "_law_letters_here", "_law_count", "_law_deep"]⟩
def s28 : Stmt := top 35
def D28 : DefI := ⟨⟨("_law_pattern", none), "_law_pattern", "_law_pattern", defArgs s28, defBody s28, defScope s28, [], []⟩, "", ["_law_box", "_law_letters_here", "_law_count", "_law_deep", "_law_kind", "_law_number_here", "_law_yes", "_law_word"], ["_law_box", "_law_letters_here", "_law_count", "_law_deep"]⟩
def s29 : Stmt := top 36
def D29 : DefI := ⟨⟨("_law_drawn", none), "_law_drawn", "_law_drawn", defArgs s29, defBody s29, defScope s29, [], []⟩, "", ["_law_box", "_law_letters_here", "_law_plain", "_law_count", "_law_p", "_law_one", "_law_two", "_law_k"], ["_law_box", "_law_letters_here", "_law_plain"]⟩
def s30 : Stmt := top 37
def D30 : DefI := ⟨⟨("_law_nested", none), "_law_nested", "_law_nested", defArgs s30, defBody s30, defScope s30, [], []⟩, "", ["_law_box", "_law_letters_here", "_law_deep", "_law_p", "_law_k", "_law_kind"], ["_law_box", "_law_letters_here", "_law_deep"]⟩
def s31 : Stmt := top 38
def D31 : DefI := ⟨⟨("_law_wide", none), "_law_wide", "_law_wide", defArgs s31, defBody s31, defScope s31, [], []⟩, "", ["_law_box", "_law_letters_here", "_law_one", "_law_two", "_law_rows", "_law_k", "_law_branches", "_law_j"], ["_law_box", "_law_letters_here", "_law_one", "_law_two"]⟩
def s32 : Stmt := top 39
def D32 : DefI := ⟨⟨("_law_many_groups", none), "_law_many_groups", "_law_many_groups", defArgs s32, defBody s32, defScope s32, [], []⟩, "", ["_law_letters_here", "_law_many", "_law_p", "_law_parts_here", "_law_k"], ["_law_letters_here", "_law_many"]⟩
def s33 : Stmt := top 40
def D33 : DefI := ⟨⟨("_law_signed", none), "_law_signed", "_law_signed", defArgs s33, defBody s33, defScope s33, [], []⟩, "", ["_law_sign_here", "_law_special"], ["_law_sign_here", "_law_special"]⟩
def s34 : Stmt := top 41
def D34 : DefI := ⟨⟨("_law_run_text", none), "_law_run_text", "_law_run_text", defArgs s34, defBody s34, defScope s34, [], []⟩, "", ["_law_run", "_law_low"], ["_law_run"]⟩
def s35 : Stmt := top 42
def D35 : DefI := ⟨⟨("_law_inner", none), "_law_inner", "_law_inner", defArgs s35, defBody s35, defScope s35, [], []⟩, "", ["_law_p", "_law_words"], ["_law_p", "_law_words"]⟩
def s36 : Stmt := top 43
def D36 : DefI := ⟨⟨("_law_leaf_text", none), "_law_leaf_text", "_law_leaf_text", defArgs s36, defBody s36, defScope s36, [], []⟩, "", ["_law_p", "_law_run"], ["_law_p"]⟩
def s37 : Stmt := top 44
def D37 : DefI := ⟨⟨("_law_written", none), "_law_written", "_law_written", defArgs s37, defBody s37, defScope s37, [], []⟩, "", ["_law_p", "_law_word", "_law_part", "_law_high", "_law_looks"], ["_law_p"]⟩
def s38 : Stmt := top 45
def D38 : DefI := ⟨⟨("_law_parts_of", none), "_law_parts_of", "_law_parts_of", defArgs s38, defBody s38, defScope s38, [], []⟩, "", ["_law_p", "_law_word"], ["_law_p"]⟩
def s39 : Stmt := top 46
def D39 : DefI := ⟨⟨("_law_text_like", none), "_law_text_like", "_law_text_like", defArgs s39, defBody s39, defScope s39, [], []⟩, "", ["_law_found", "_law_size_here"], ["_law_found", "_law_size_here"]⟩
def s40 : Stmt := top 47
def D40 : DefI := ⟨⟨("_law_number", none), "_law_number", "_law_number", defArgs s40, defBody s40, defScope s40, [], []⟩, "", ["_law_found", "_law_low", "_law_high"], ["_law_found", "_law_low", "_law_high"]⟩
def s41 : Stmt := top 48
def D41 : DefI := ⟨⟨("_law_good_runs", none), "_law_good_runs", "_law_good_runs", defArgs s41, defBody s41, defScope s41, [], []⟩, "", ["_law_runs_here", "_law_run"], ["_law_runs_here"]⟩
def s42 : Stmt := top 49
def D42 : DefI := ⟨⟨("_law_good_turns", none), "_law_good_turns", "_law_good_turns", defArgs s42, defBody s42, defScope s42, [], []⟩, "", ["_law_p"], ["_law_p"]⟩
def s43 : Stmt := top 50
def D43 : DefI := ⟨⟨("_law_good_head", none), "_law_good_head", "_law_good_head", defArgs s43, defBody s43, defScope s43, [], []⟩, "", ["_law_p", "_law_seen", "_law_total", "_law_word"], ["_law_p", "_law_seen", "_law_total"]⟩
def s44 : Stmt := top 51
def D44 : DefI := ⟨⟨("_law_size", none), "_law_size", "_law_size", defArgs s44, defBody s44, defScope s44, [], []⟩, "", ["_law_p", "_law_seen", "_law_total", "_law_deep", "_law_size_here", "_law_part"], ["_law_p", "_law_seen", "_law_total", "_law_deep"]⟩
def s45 : Stmt := top 52
def D45 : DefI := ⟨⟨("_law_good", none), "_law_good", "_law_good", defArgs s45, defBody s45, defScope s45, [], []⟩, "", ["_law_p", "_law_total", "_law_seen"], ["_law_p", "_law_total"]⟩
def s46 : Stmt := top 53
def D46 : DefI := ⟨⟨("_law_refused", none), "_law_refused", "_law_refused", defArgs s46, defBody s46, defScope s46, [], []⟩, "", ["_law_pattern_like", "_law_refused_here", "e"], ["_law_pattern_like"]⟩
def s47 : Stmt := top 54
def D47 : DefI := ⟨⟨("_law_beyond", none), "_law_beyond", "_law_beyond", defArgs s47, defBody s47, defScope s47, [], []⟩, "", ["_law_box", "_law_letters_here", "_law_kind", "_law_k", "_law_runs_here", "_law_inner_here"], ["_law_box", "_law_letters_here"]⟩
def s48 : Stmt := top 55
def D48 : DefI := ⟨⟨("_law_spoilt", none), "_law_spoilt", "_law_spoilt", defArgs s48, defBody s48, defScope s48, [], []⟩, "", ["_law_box", "_law_line_here", "_law_letters_here", "_law_k", "_law_at", "_law_sign_here", "_law_way"], ["_law_box", "_law_line_here", "_law_letters_here"]⟩
def s49 : Stmt := top 56
def D49 : DefI := ⟨⟨("_law_line", none), "_law_line", "_law_line", defArgs s49, defBody s49, defScope s49, [], []⟩, "", ["_law_box", "_law_letters_here", "_law_kind", "_law_some", "_law_k", "_law_line_here"], ["_law_box", "_law_letters_here"]⟩
def s50 : Stmt := top 57
def D50 : DefI := ⟨⟨("law", none), "law", "law", defArgs s50, defBody s50, defScope s50, [], []⟩, "", ["_law_script", "_law_box", "_law_letters_here", "_law_line_here", "_law_total", "_law_k", "_law_found", "_law_refused_here", "_law_seen"], ["_law_script"]⟩
def tb : Tb := ⟨[D0, D1, D2, D3, D4, D5, D6, D7, D8, D9, D10, D11, D12, D13, D14, D15, D16, D17, D18, D19, D20, D21, D22, D23, D24, D25, D26, D27, D28, D29, D30, D31, D32, D33, D34, D35, D36, D37, D38, D39, D40, D41, D42, D43, D44, D45, D46, D47, D48, D49, D50], ["list", "int", "str", "len", "tuple", "ord", "range", "max", "isinstance", "bool", "ValueError"], ["SeekError", "Unread", "NoForm", "Memory", "Over"], [("KEEPING", [[97, 103, 97, 105, 110], [104, 97, 118, 101], [111, 110, 99, 101], [97, 104, 101, 97, 100], [110, 111, 116, 97, 104, 101, 97, 100], [98, 101, 104, 105, 110, 100], [110, 111, 116, 98, 101, 104, 105, 110, 100]])], [("SPECIAL", [92, 46, 91, 93, 40, 41, 123, 125, 60, 62, 124, 94, 36, 38, 126]), ("WITHIN", [92, 91, 93, 94, 45]), ("FIGURES", [48, 49, 50, 51, 52, 53, 54, 55, 56, 57])], [("Reader", "text"), ("Reader", "at"), ("Reader", "groups")], [("SeekError", [("SeekError", true), ("Unread", true), ("NoForm", true), ("Memory", true), ("Over", true)]), ("Unread", [("SeekError", false), ("Unread", true), ("NoForm", false), ("Memory", false), ("Over", false)])], [("Unread", true, [("SeekError", false), ("Unread", true), ("NoForm", false), ("Memory", false), ("Over", false)]), ("ValueError", false, [("SeekError", true), ("Unread", true), ("NoForm", true), ("Memory", true), ("Over", true)]), ("NoForm", true, [("SeekError", false), ("Unread", false), ("NoForm", true), ("Memory", false), ("Over", false)]), ("Memory", true, [("SeekError", false), ("Unread", false), ("NoForm", false), ("Memory", true), ("Over", false)]), ("Over", true, [("SeekError", false), ("Unread", false), ("NoForm", false), ("Memory", false), ("Over", true)])], [("LOOKS", [([111, 110, 99, 101], [33]), ([97, 104, 101, 97, 100], [43]), ([110, 111, 116, 97, 104, 101, 97, 100], [45]), ([98, 101, 104, 105, 110, 100], [42]), ([110, 111, 116, 98, 101, 104, 105, 110, 100], [47])])], [("MOST_PARTS", 60), ("MOST_DEEP", 8), ("MOST_GROUPS", 9), ("MOST_BESIDE", 8)]⟩
section
variable {g : Cxt} {S S' : Nat → FSem}
theorem fr0 (C : Calls tb g S S') : Fre g "list" := C.fre 0 rfl
theorem fr1 (C : Calls tb g S S') : Fre g "int" := C.fre 1 rfl
theorem fr2 (C : Calls tb g S S') : Fre g "str" := C.fre 2 rfl
theorem fr3 (C : Calls tb g S S') : Fre g "len" := C.fre 3 rfl
theorem fr4 (C : Calls tb g S S') : Fre g "tuple" := C.fre 4 rfl
theorem fr5 (C : Calls tb g S S') : Fre g "ord" := C.fre 5 rfl
theorem fr6 (C : Calls tb g S S') : Fre g "range" := C.fre 6 rfl
theorem fr7 (C : Calls tb g S S') : Fre g "max" := C.fre 7 rfl
theorem fr8 (C : Calls tb g S S') : Fre g "isinstance" := C.fre 8 rfl
theorem fr9 (C : Calls tb g S S') : Fre g "bool" := C.fre 9 rfl
theorem fr10 (C : Calls tb g S S') : Fre g "ValueError" := C.fre 10 rfl
theorem xc0 (C : Calls tb g S S') : XCls g "SeekError" "SeekError" := C.exc 0 rfl
theorem xc1 (C : Calls tb g S S') : XCls g "Unread" "Unread" := C.exc 1 rfl
theorem xc2 (C : Calls tb g S S') : XCls g "NoForm" "NoForm" := C.exc 2 rfl
theorem xc3 (C : Calls tb g S S') : XCls g "Memory" "Memory" := C.exc 3 rfl
theorem xc4 (C : Calls tb g S S') : XCls g "Over" "Over" := C.exc 4 rfl
theorem tu0 (C : Calls tb g S S') : TupC g "KEEPING" [[97, 103, 97, 105, 110], [104, 97, 118, 101], [111, 110, 99, 101], [97, 104, 101, 97, 100], [110, 111, 116, 97, 104, 101, 97, 100], [98, 101, 104, 105, 110, 100], [110, 111, 116, 98, 101, 104, 105, 110, 100]] := C.tup 0 (x := ("KEEPING", [[97, 103, 97, 105, 110], [104, 97, 118, 101], [111, 110, 99, 101], [97, 104, 101, 97, 100], [110, 111, 116, 97, 104, 101, 97, 100], [98, 101, 104, 105, 110, 100], [110, 111, 116, 98, 101, 104, 105, 110, 100]])) rfl
theorem st0 (C : Calls tb g S S') : StrC g "SPECIAL" [92, 46, 91, 93, 40, 41, 123, 125, 60, 62, 124, 94, 36, 38, 126] := C.str 0 (x := ("SPECIAL", [92, 46, 91, 93, 40, 41, 123, 125, 60, 62, 124, 94, 36, 38, 126])) rfl
theorem st1 (C : Calls tb g S S') : StrC g "WITHIN" [92, 91, 93, 94, 45] := C.str 1 (x := ("WITHIN", [92, 91, 93, 94, 45])) rfl
theorem st2 (C : Calls tb g S S') : StrC g "FIGURES" [48, 49, 50, 51, 52, 53, 54, 55, 56, 57] := C.str 2 (x := ("FIGURES", [48, 49, 50, 51, 52, 53, 54, 55, 56, 57])) rfl
theorem fl0 (C : Calls tb g S S') : FldOk g "Reader" "text" := C.fld 0 (x := ("Reader", "text")) rfl
theorem fl1 (C : Calls tb g S S') : FldOk g "Reader" "at" := C.fld 1 (x := ("Reader", "at")) rfl
theorem fl2 (C : Calls tb g S S') : FldOk g "Reader" "groups" := C.fld 2 (x := ("Reader", "groups")) rfl
theorem ca0 (C : Calls tb g S S') : Catch g "SeekError" [("SeekError", true), ("Unread", true), ("NoForm", true), ("Memory", true), ("Over", true)] := C.cat 0 (x := ("SeekError", [("SeekError", true), ("Unread", true), ("NoForm", true), ("Memory", true), ("Over", true)])) rfl
theorem ca1 (C : Calls tb g S S') : Catch g "Unread" [("SeekError", false), ("Unread", true), ("NoForm", false), ("Memory", false), ("Over", false)] := C.cat 1 (x := ("Unread", [("SeekError", false), ("Unread", true), ("NoForm", false), ("Memory", false), ("Over", false)])) rfl
theorem ie0 (C : Calls tb g S S') : IsE g "Unread" [("SeekError", false), ("Unread", true), ("NoForm", false), ("Memory", false), ("Over", false)] := C.ise 0 (x := ("Unread", true, [("SeekError", false), ("Unread", true), ("NoForm", false), ("Memory", false), ("Over", false)])) rfl
theorem ie1 (C : Calls tb g S S') : IsE g "ValueError" [("SeekError", true), ("Unread", true), ("NoForm", true), ("Memory", true), ("Over", true)] := C.ise 1 (x := ("ValueError", false, [("SeekError", true), ("Unread", true), ("NoForm", true), ("Memory", true), ("Over", true)])) rfl
theorem ie2 (C : Calls tb g S S') : IsE g "NoForm" [("SeekError", false), ("Unread", false), ("NoForm", true), ("Memory", false), ("Over", false)] := C.ise 2 (x := ("NoForm", true, [("SeekError", false), ("Unread", false), ("NoForm", true), ("Memory", false), ("Over", false)])) rfl
theorem ie3 (C : Calls tb g S S') : IsE g "Memory" [("SeekError", false), ("Unread", false), ("NoForm", false), ("Memory", true), ("Over", false)] := C.ise 3 (x := ("Memory", true, [("SeekError", false), ("Unread", false), ("NoForm", false), ("Memory", true), ("Over", false)])) rfl
theorem ie4 (C : Calls tb g S S') : IsE g "Over" [("SeekError", false), ("Unread", false), ("NoForm", false), ("Memory", false), ("Over", true)] := C.ise 4 (x := ("Over", true, [("SeekError", false), ("Unread", false), ("NoForm", false), ("Memory", false), ("Over", true)])) rfl
theorem dc0 (C : Calls tb g S S') : DicC g "LOOKS" [([111, 110, 99, 101], [33]), ([97, 104, 101, 97, 100], [43]), ([110, 111, 116, 97, 104, 101, 97, 100], [45]), ([98, 101, 104, 105, 110, 100], [42]), ([110, 111, 116, 98, 101, 104, 105, 110, 100], [47])] := C.dic 0 (x := ("LOOKS", [([111, 110, 99, 101], [33]), ([97, 104, 101, 97, 100], [43]), ([110, 111, 116, 97, 104, 101, 97, 100], [45]), ([98, 101, 104, 105, 110, 100], [42]), ([110, 111, 116, 98, 101, 104, 105, 110, 100], [47])])) rfl
theorem in0 (C : Calls tb g S S') : IntC g "MOST_PARTS" 60 := C.int 0 (x := ("MOST_PARTS", 60)) rfl
theorem in1 (C : Calls tb g S S') : IntC g "MOST_DEEP" 8 := C.int 1 (x := ("MOST_DEEP", 8)) rfl
theorem in2 (C : Calls tb g S S') : IntC g "MOST_GROUPS" 9 := C.int 2 (x := ("MOST_GROUPS", 9)) rfl
theorem in3 (C : Calls tb g S S') : IntC g "MOST_BESIDE" 8 := C.int 3 (x := ("MOST_BESIDE", 8)) rfl
theorem gl0 (C : Calls tb g S S') : Cal g "parts_of" (S 0) := C.glo 0 (x := D0) rfl rfl
theorem gl1 (C : Calls tb g S S') : Cal g "groups_in" (S 1) := C.glo 1 (x := D1) rfl rfl
theorem gl2 (C : Calls tb g S S') : Cal g "sign_text" (S 2) := C.glo 2 (x := D2) rfl rfl
theorem gl3 (C : Calls tb g S S') : Cal g "runs_text" (S 3) := C.glo 3 (x := D3) rfl rfl
theorem gl4 (C : Calls tb g S S') : Cal g "times_text" (S 4) := C.glo 4 (x := D4) rfl rfl
theorem gl5 (C : Calls tb g S S') : Cal g "row_text" (S 5) := C.glo 5 (x := D5) rfl rfl
theorem gl6 (C : Calls tb g S S') : Cal g "pattern_text" (S 6) := C.glo 6 (x := D6) rfl rfl
theorem nw7 (C : Calls tb g S S') : NCal g "Reader" "Reader" (S' 7) := C.new 7 (x := D7) rfl rfl
theorem me7 (C : Calls tb g S S') : MCal g "Reader" "__init__" (S 7) := C.met 7 (x := D7) rfl rfl
theorem me8 (C : Calls tb g S S') : MCal g "Reader" "ahead" (S 8) := C.met 8 (x := D8) rfl rfl
theorem me9 (C : Calls tb g S S') : MCal g "Reader" "take" (S 9) := C.met 9 (x := D9) rfl rfl
theorem me10 (C : Calls tb g S S') : MCal g "Reader" "want" (S 10) := C.met 10 (x := D10) rfl rfl
theorem me11 (C : Calls tb g S S') : MCal g "Reader" "figure" (S 11) := C.met 11 (x := D11) rfl rfl
theorem me12 (C : Calls tb g S S') : MCal g "Reader" "whole" (S 12) := C.met 12 (x := D12) rfl rfl
theorem me13 (C : Calls tb g S S') : MCal g "Reader" "branch" (S 13) := C.met 13 (x := D13) rfl rfl
theorem me14 (C : Calls tb g S S') : MCal g "Reader" "turned" (S 14) := C.met 14 (x := D14) rfl rfl
theorem me15 (C : Calls tb g S S') : MCal g "Reader" "one" (S 15) := C.met 15 (x := D15) rfl rfl
theorem me16 (C : Calls tb g S S') : MCal g "Reader" "bracket" (S 16) := C.met 16 (x := D16) rfl rfl
theorem me17 (C : Calls tb g S S') : MCal g "Reader" "signs" (S 17) := C.met 17 (x := D17) rfl rfl
theorem me18 (C : Calls tb g S S') : MCal g "Reader" "within" (S 18) := C.met 18 (x := D18) rfl rfl
theorem gl19 (C : Calls tb g S S') : Cal g "look_at" (S 19) := C.glo 19 (x := D19) rfl rfl
theorem gl20 (C : Calls tb g S S') : Cal g "read_pattern" (S 20) := C.glo 20 (x := D20) rfl rfl
theorem gl21 (C : Calls tb g S S') : Cal g "_law_take" (S 21) := C.glo 21 (x := D21) rfl rfl
theorem gl22 (C : Calls tb g S S') : Cal g "_law_sign" (S 22) := C.glo 22 (x := D22) rfl rfl
theorem gl23 (C : Calls tb g S S') : Cal g "_law_letters" (S 23) := C.glo 23 (x := D23) rfl rfl
theorem gl24 (C : Calls tb g S S') : Cal g "_law_runs" (S 24) := C.glo 24 (x := D24) rfl rfl
theorem gl25 (C : Calls tb g S S') : Cal g "_law_leaf" (S 25) := C.glo 25 (x := D25) rfl rfl
theorem gl26 (C : Calls tb g S S') : Cal g "_law_parts" (S 26) := C.glo 26 (x := D26) rfl rfl
theorem gl27 (C : Calls tb g S S') : Cal g "_law_times" (S 27) := C.glo 27 (x := D27) rfl rfl
theorem gl28 (C : Calls tb g S S') : Cal g "_law_pattern" (S 28) := C.glo 28 (x := D28) rfl rfl
theorem gl29 (C : Calls tb g S S') : Cal g "_law_drawn" (S 29) := C.glo 29 (x := D29) rfl rfl
theorem gl30 (C : Calls tb g S S') : Cal g "_law_nested" (S 30) := C.glo 30 (x := D30) rfl rfl
theorem gl31 (C : Calls tb g S S') : Cal g "_law_wide" (S 31) := C.glo 31 (x := D31) rfl rfl
theorem gl32 (C : Calls tb g S S') : Cal g "_law_many_groups" (S 32) := C.glo 32 (x := D32) rfl rfl
theorem gl33 (C : Calls tb g S S') : Cal g "_law_signed" (S 33) := C.glo 33 (x := D33) rfl rfl
theorem gl34 (C : Calls tb g S S') : Cal g "_law_run_text" (S 34) := C.glo 34 (x := D34) rfl rfl
theorem gl35 (C : Calls tb g S S') : Cal g "_law_inner" (S 35) := C.glo 35 (x := D35) rfl rfl
theorem gl36 (C : Calls tb g S S') : Cal g "_law_leaf_text" (S 36) := C.glo 36 (x := D36) rfl rfl
theorem gl37 (C : Calls tb g S S') : Cal g "_law_written" (S 37) := C.glo 37 (x := D37) rfl rfl
theorem gl38 (C : Calls tb g S S') : Cal g "_law_parts_of" (S 38) := C.glo 38 (x := D38) rfl rfl
theorem gl39 (C : Calls tb g S S') : Cal g "_law_text_like" (S 39) := C.glo 39 (x := D39) rfl rfl
theorem gl40 (C : Calls tb g S S') : Cal g "_law_number" (S 40) := C.glo 40 (x := D40) rfl rfl
theorem gl41 (C : Calls tb g S S') : Cal g "_law_good_runs" (S 41) := C.glo 41 (x := D41) rfl rfl
theorem gl42 (C : Calls tb g S S') : Cal g "_law_good_turns" (S 42) := C.glo 42 (x := D42) rfl rfl
theorem gl43 (C : Calls tb g S S') : Cal g "_law_good_head" (S 43) := C.glo 43 (x := D43) rfl rfl
theorem gl44 (C : Calls tb g S S') : Cal g "_law_size" (S 44) := C.glo 44 (x := D44) rfl rfl
theorem gl45 (C : Calls tb g S S') : Cal g "_law_good" (S 45) := C.glo 45 (x := D45) rfl rfl
theorem gl46 (C : Calls tb g S S') : Cal g "_law_refused" (S 46) := C.glo 46 (x := D46) rfl rfl
theorem gl47 (C : Calls tb g S S') : Cal g "_law_beyond" (S 47) := C.glo 47 (x := D47) rfl rfl
theorem gl48 (C : Calls tb g S S') : Cal g "_law_spoilt" (S 48) := C.glo 48 (x := D48) rfl rfl
theorem gl49 (C : Calls tb g S S') : Cal g "_law_line" (S 49) := C.glo 49 (x := D49) rfl rfl
theorem gl50 (C : Calls tb g S S') : Cal g "law" (S 50) := C.glo 50 (x := D50) rfl rfl
end
theorem b0 {cn : Cn} {wx : WX} {XP : Cx → Prop} {P : Program} {w : World} {mg : Str → Option Value} {base : Heap} {k : Nat} {S S' : Nat → FSem} (ok : (Cxt.mk cn wx XP P w mg base D0.N D0.d.scope k).Ok) (C : Calls tb (Cxt.mk cn wx XP P w mg base D0.N D0.d.scope k) S S') : SSs (Cxt.mk cn wx XP P w mg base D0.N D0.d.scope k) D0.d.body (c_parts_of S S') :=
  have hB := ok.B
  have hR := ok.R
  have hF := ok.F
  have hL := ok.L
  (ss_cons (s_set hB rfl hF (.inl rfl) (se_item hB.K (se_var hB rfl (.inl rfl)) se_int (fun _ _ => rfl))) (ss_cons (s_if (st_of_pw (spw_or (st_cp (cr_eq hR) (se_var hB rfl (.inl rfl)) (se_str rfl (by decide)) rfl) (spw_or1 (st_cp (cr_eq hR) (se_var hB rfl (.inl rfl)) (se_str rfl (by decide)) rfl)))) (ss_one (s_retL (sl_list hB rfl (fr0 C) (se_item hB.K (se_var hB rfl (.inl rfl)) se_int (fun _ _ => rfl))))) ss_nil) (ss_cons (s_if (st_cp (cr_eq hR) (se_var hB rfl (.inl rfl)) (se_str rfl (by decide)) rfl) (ss_one (s_retL (sl_lst (sa_cons (se_item hB.K (se_var hB rfl (.inl rfl)) se_int (fun _ _ => rfl)) sa_nil)))) ss_nil) (ss_cons (s_if (st_cp (cr_eq hR) (se_var hB rfl (.inl rfl)) (se_str rfl (by decide)) rfl) (ss_one (s_retL (sl_lst (sa_cons (se_item hB.K (se_var hB rfl (.inl rfl)) se_int (fun _ _ => rfl)) sa_nil)))) ss_nil) (ss_cons (s_if (st_cp (cr_eq hR) (se_var hB rfl (.inl rfl)) (se_str rfl (by decide)) rfl) (ss_one (s_retL (sl_lst (sa_cons (se_item hB.K (se_var hB rfl (.inl rfl)) se_int (fun _ _ => rfl)) (sa_cons (se_item hB.K (se_var hB rfl (.inl rfl)) se_int (fun _ _ => rfl)) sa_nil))))) ss_nil) (ss_cons (s_if (st_of_pw (spw_and (st_cp (cr_in hB) (se_var hB rfl (.inl rfl)) (se_gtup hB (tu0 C) rfl) rfl) (spw_and1 (st_cp (cr_ne hR) (se_var hB rfl (.inl rfl)) (se_str rfl (by decide)) rfl)))) (ss_one (s_retL (sl_lst (sa_cons (se_item hB.K (se_var hB rfl (.inl rfl)) se_int (fun _ _ => rfl)) sa_nil)))) ss_nil) (ss_one (s_retL (sl_lst sa_nil)))))))))
theorem b1 {cn : Cn} {wx : WX} {XP : Cx → Prop} {P : Program} {w : World} {mg : Str → Option Value} {base : Heap} {k : Nat} {S S' : Nat → FSem} (ok : (Cxt.mk cn wx XP P w mg base D1.N D1.d.scope k).Ok) (C : Calls tb (Cxt.mk cn wx XP P w mg base D1.N D1.d.scope k) S S') : SSs (Cxt.mk cn wx XP P w mg base D1.N D1.d.scope k) D1.d.body (c_groups_in S S') :=
  have hB := ok.B
  have hR := ok.R
  have hF := ok.F
  have hL := ok.L
  (ss_cons (s_set hB rfl hF (.inl rfl) (se_int1 hB rfl (fr1 C) (se_cp (cr_eq hR) (se_item hB.K (se_var hB rfl (.inl rfl)) se_int (fun _ _ => rfl)) (se_str rfl (by decide)) rfl))) (ss_cons (s_for hB hR hL hF rfl (.inl rfl) (si_val hB (se_call hB hR (gl0 C) rfl (sa_cons (se_var hB rfl (.inl rfl)) sa_nil))) (ss_one (s_set hB rfl hF (.inl rfl) (se_add hB (se_var hB rfl (.inl rfl)) (se_call hB hR (gl1 C) rfl (sa_cons (se_var hB rfl (.inl rfl)) sa_nil)))))) (ss_one (s_ret (se_var hB rfl (.inl rfl))))))
theorem b2 {cn : Cn} {wx : WX} {XP : Cx → Prop} {P : Program} {w : World} {mg : Str → Option Value} {base : Heap} {k : Nat} {S S' : Nat → FSem} (ok : (Cxt.mk cn wx XP P w mg base D2.N D2.d.scope k).Ok) (C : Calls tb (Cxt.mk cn wx XP P w mg base D2.N D2.d.scope k) S S') : SSs (Cxt.mk cn wx XP P w mg base D2.N D2.d.scope k) D2.d.body (c_sign_text S S') :=
  have hB := ok.B
  have hR := ok.R
  have hF := ok.F
  have hL := ok.L
  (ss_cons (s_if (st_cp (cr_in hB) (se_var hB rfl (.inl rfl)) (se_var hB rfl (.inl rfl)) rfl) (ss_one (s_ret (se_add hB (se_str rfl (by decide)) (se_var hB rfl (.inl rfl))))) ss_nil) (ss_one (s_ret (se_var hB rfl (.inl rfl)))))
theorem b3 {cn : Cn} {wx : WX} {XP : Cx → Prop} {P : Program} {w : World} {mg : Str → Option Value} {base : Heap} {k : Nat} {S S' : Nat → FSem} (ok : (Cxt.mk cn wx XP P w mg base D3.N D3.d.scope k).Ok) (C : Calls tb (Cxt.mk cn wx XP P w mg base D3.N D3.d.scope k) S S') : SSs (Cxt.mk cn wx XP P w mg base D3.N D3.d.scope k) D3.d.body (c_runs_text S S') :=
  have hB := ok.B
  have hR := ok.R
  have hF := ok.F
  have hL := ok.L
  (ss_cons (s_set hB rfl hF (.inl rfl) (se_str rfl (by decide))) (ss_cons (s_for hB hR hL hF rfl (.inl rfl) (si_val hB (se_var hB rfl (.inl rfl))) (ss_cons (s_set hB rfl hF (.inl rfl) (se_add hB (se_var hB rfl (.inl rfl)) (se_call hB hR (gl2 C) rfl (sa_cons (se_item hB.K (se_var hB rfl (.inl rfl)) se_int (fun _ _ => rfl)) (sa_cons (se_gstr hB (st1 C) rfl) sa_nil))))) (ss_one (s_if (st_cp (cr_ne hR) (se_item hB.K (se_var hB rfl (.inl rfl)) se_int (fun _ _ => rfl)) (se_item hB.K (se_var hB rfl (.inl rfl)) se_int (fun _ _ => rfl)) rfl) (ss_one (s_set hB rfl hF (.inl rfl) (se_add hB (se_add hB (se_var hB rfl (.inl rfl)) (se_str rfl (by decide))) (se_call hB hR (gl2 C) rfl (sa_cons (se_item hB.K (se_var hB rfl (.inl rfl)) se_int (fun _ _ => rfl)) (sa_cons (se_gstr hB (st1 C) rfl) sa_nil)))))) ss_nil)))) (ss_one (s_ret (se_var hB rfl (.inl rfl))))))
theorem b4 {cn : Cn} {wx : WX} {XP : Cx → Prop} {P : Program} {w : World} {mg : Str → Option Value} {base : Heap} {k : Nat} {S S' : Nat → FSem} (ok : (Cxt.mk cn wx XP P w mg base D4.N D4.d.scope k).Ok) (C : Calls tb (Cxt.mk cn wx XP P w mg base D4.N D4.d.scope k) S S') : SSs (Cxt.mk cn wx XP P w mg base D4.N D4.d.scope k) D4.d.body (c_times_text S S') :=
  have hB := ok.B
  have hR := ok.R
  have hF := ok.F
  have hL := ok.L
  (ss_cons (s_set hB rfl hF (.inl rfl) (se_call hB hR (gl6 C) rfl (sa_cons (se_item hB.K (se_var hB rfl (.inl rfl)) se_int (fun _ _ => rfl)) sa_nil))) (ss_cons (s_if (st_cp (cr_in hB) (se_item hB.K (se_item hB.K (se_var hB rfl (.inl rfl)) se_int (fun _ _ => rfl)) se_int (fun _ _ => rfl)) (se_tup (sa_cons (se_str rfl (by decide)) (sa_cons (se_str rfl (by decide)) (sa_cons (se_str rfl (by decide)) sa_nil)))) rfl) (ss_one (s_set hB rfl hF (.inl rfl) (se_add hB (se_add hB (se_str rfl (by decide)) (se_var hB rfl (.inl rfl))) (se_str rfl (by decide))))) ss_nil) (ss_cons (s_set hB rfl hF (.inl rfl) (se_str rfl (by decide))) (ss_cons (s_if (st_notN (se_item hB.K (se_var hB rfl (.inl rfl)) se_int (fun _ _ => rfl))) (ss_one (s_set hB rfl hF (.inl rfl) (se_str1 hB rfl (fr2 C) (se_item hB.K (se_var hB rfl (.inl rfl)) se_int (fun _ _ => rfl))))) ss_nil) (ss_cons (s_set hB rfl hF (.inl rfl) (se_itemD hR (se_dic (sd_cons (kt := [109, 117, 99, 104]) (vt := []) rfl rfl (sd_cons (kt := [108, 105, 116, 116, 108, 101]) (vt := [63]) rfl rfl (sd_cons (kt := [107, 101, 101, 112]) (vt := [33]) rfl rfl sd_nil)))) (se_item hB.K (se_var hB rfl (.inl rfl)) se_int (fun _ _ => rfl)) (fun _ _ => rfl))) (ss_one (s_ret (se_add hB (se_add hB (se_add hB (se_add hB (se_add hB (se_add hB (se_var hB rfl (.inl rfl)) (se_str rfl (by decide))) (se_str1 hB rfl (fr2 C) (se_item hB.K (se_var hB rfl (.inl rfl)) se_int (fun _ _ => rfl)))) (se_str rfl (by decide))) (se_var hB rfl (.inl rfl))) (se_var hB rfl (.inl rfl))) (se_str rfl (by decide))))))))))
theorem b5 {cn : Cn} {wx : WX} {XP : Cx → Prop} {P : Program} {w : World} {mg : Str → Option Value} {base : Heap} {k : Nat} {S S' : Nat → FSem} (ok : (Cxt.mk cn wx XP P w mg base D5.N D5.d.scope k).Ok) (C : Calls tb (Cxt.mk cn wx XP P w mg base D5.N D5.d.scope k) S S') : SSs (Cxt.mk cn wx XP P w mg base D5.N D5.d.scope k) D5.d.body (c_row_text S S') :=
  have hB := ok.B
  have hR := ok.R
  have hF := ok.F
  have hL := ok.L
  (ss_cons (s_set hB rfl hF (.inl rfl) (se_str rfl (by decide))) (ss_cons (s_for hB hR hL hF rfl (.inl rfl) (si_val hB (se_var hB rfl (.inl rfl))) (ss_cons (s_set hB rfl hF (.inl rfl) (se_call hB hR (gl6 C) rfl (sa_cons (se_var hB rfl (.inl rfl)) sa_nil))) (ss_cons (s_if (st_cp (cr_eq hR) (se_item hB.K (se_var hB rfl (.inl rfl)) se_int (fun _ _ => rfl)) (se_str rfl (by decide)) rfl) (ss_one (s_set hB rfl hF (.inl rfl) (se_add hB (se_add hB (se_str rfl (by decide)) (se_var hB rfl (.inl rfl))) (se_str rfl (by decide))))) ss_nil) (ss_one (s_set hB rfl hF (.inl rfl) (se_add hB (se_var hB rfl (.inl rfl)) (se_var hB rfl (.inl rfl)))))))) (ss_one (s_ret (se_var hB rfl (.inl rfl))))))
theorem b6 {cn : Cn} {wx : WX} {XP : Cx → Prop} {P : Program} {w : World} {mg : Str → Option Value} {base : Heap} {k : Nat} {S S' : Nat → FSem} (ok : (Cxt.mk cn wx XP P w mg base D6.N D6.d.scope k).Ok) (C : Calls tb (Cxt.mk cn wx XP P w mg base D6.N D6.d.scope k) S S') : SSs (Cxt.mk cn wx XP P w mg base D6.N D6.d.scope k) D6.d.body (c_pattern_text S S') :=
  have hB := ok.B
  have hR := ok.R
  have hF := ok.F
  have hL := ok.L
  (ss_cons (s_set hB rfl hF (.inl rfl) (se_item hB.K (se_var hB rfl (.inl rfl)) se_int (fun _ _ => rfl))) (ss_cons (s_if (st_cp (cr_eq hR) (se_var hB rfl (.inl rfl)) (se_str rfl (by decide)) rfl) (ss_one (s_ret (se_call hB hR (gl2 C) rfl (sa_cons (se_item hB.K (se_var hB rfl (.inl rfl)) se_int (fun _ _ => rfl)) (sa_cons (se_gstr hB (st0 C) rfl) sa_nil))))) ss_nil) (ss_cons (s_if (st_cp (cr_eq hR) (se_var hB rfl (.inl rfl)) (se_str rfl (by decide)) rfl) (ss_one (s_ret (se_str rfl (by decide)))) ss_nil) (ss_cons (s_if (st_cp (cr_eq hR) (se_var hB rfl (.inl rfl)) (se_str rfl (by decide)) rfl) (ss_one (s_ret (se_add hB (se_add hB (se_str rfl (by decide)) (se_call hB hR (gl3 C) rfl (sa_cons (se_item hB.K (se_var hB rfl (.inl rfl)) se_int (fun _ _ => rfl)) sa_nil))) (se_str rfl (by decide))))) ss_nil) (ss_cons (s_if (st_cp (cr_eq hR) (se_var hB rfl (.inl rfl)) (se_str rfl (by decide)) rfl) (ss_one (s_ret (se_add hB (se_add hB (se_str rfl (by decide)) (se_call hB hR (gl3 C) rfl (sa_cons (se_item hB.K (se_var hB rfl (.inl rfl)) se_int (fun _ _ => rfl)) sa_nil))) (se_str rfl (by decide))))) ss_nil) (ss_cons (s_if (st_cp (cr_eq hR) (se_var hB rfl (.inl rfl)) (se_str rfl (by decide)) rfl) (ss_one (s_ret (se_str rfl (by decide)))) ss_nil) (ss_cons (s_if (st_cp (cr_eq hR) (se_var hB rfl (.inl rfl)) (se_str rfl (by decide)) rfl) (ss_one (s_ret (se_str rfl (by decide)))) ss_nil) (ss_cons (s_if (st_cp (cr_eq hR) (se_var hB rfl (.inl rfl)) (se_str rfl (by decide)) rfl) (ss_one (s_ret (se_add hB (se_str rfl (by decide)) (se_str1 hB rfl (fr2 C) (se_item hB.K (se_var hB rfl (.inl rfl)) se_int (fun _ _ => rfl)))))) ss_nil) (ss_cons (s_if (st_cp (cr_eq hR) (se_var hB rfl (.inl rfl)) (se_str rfl (by decide)) rfl) (ss_one (s_ret (se_call hB hR (gl5 C) rfl (sa_cons (se_item hB.K (se_var hB rfl (.inl rfl)) se_int (fun _ _ => rfl)) sa_nil)))) ss_nil) (ss_cons (s_if (st_cp (cr_eq hR) (se_var hB rfl (.inl rfl)) (se_str rfl (by decide)) rfl) (ss_one (s_ret (se_join hB rfl (se_of_sl (sl_comp hB hR rfl (by rfl) rfl (si_val hB (se_item hB.K (se_var hB rfl (.inl rfl)) se_int (fun _ _ => rfl))) sf_nil (se_call hB.blk hR.blk (gl6 C.blk) rfl (sa_cons (se_var hB.blk rfl (.inl rfl)) sa_nil))))))) ss_nil) (ss_cons (s_if (st_cp (cr_eq hR) (se_var hB rfl (.inl rfl)) (se_str rfl (by decide)) rfl) (ss_one (s_ret (se_call hB hR (gl4 C) rfl (sa_cons (se_var hB rfl (.inl rfl)) sa_nil)))) ss_nil) (ss_cons (s_if (st_cp (cr_eq hR) (se_var hB rfl (.inl rfl)) (se_str rfl (by decide)) rfl) (ss_one (s_ret (se_add hB (se_add hB (se_str rfl (by decide)) (se_call hB hR (gl6 C) rfl (sa_cons (se_item hB.K (se_var hB rfl (.inl rfl)) se_int (fun _ _ => rfl)) sa_nil))) (se_str rfl (by decide))))) ss_nil) (ss_cons (s_if (st_cp (cr_eq hR) (se_var hB rfl (.inl rfl)) (se_str rfl (by decide)) rfl) (ss_one (s_ret (se_add hB (se_add hB (se_add hB (se_add hB (se_add hB (se_str rfl (by decide)) (se_str1 hB rfl (fr2 C) (se_item hB.K (se_var hB rfl (.inl rfl)) se_int (fun _ _ => rfl)))) (se_call hB hR (gl6 C) rfl (sa_cons (se_item hB.K (se_var hB rfl (.inl rfl)) se_int (fun _ _ => rfl)) sa_nil))) (se_str rfl (by decide))) (se_call hB hR (gl6 C) rfl (sa_cons (se_item hB.K (se_var hB rfl (.inl rfl)) se_int (fun _ _ => rfl)) sa_nil))) (se_str rfl (by decide))))) ss_nil) (ss_one (s_ret (se_add hB (se_add hB (se_add hB (se_str rfl (by decide)) (se_itemG hB (dc0 C) rfl (se_var hB rfl (.inl rfl)) (fun _ _ => rfl))) (se_call hB hR (gl6 C) rfl (sa_cons (se_item hB.K (se_var hB rfl (.inl rfl)) se_int (fun _ _ => rfl)) sa_nil))) (se_str rfl (by decide))))))))))))))))))
theorem b7 {cn : Cn} {wx : WX} {XP : Cx → Prop} {P : Program} {w : World} {mg : Str → Option Value} {base : Heap} {k : Nat} {S S' : Nat → FSem} (ok : (Cxt.mk cn wx XP P w mg base D7.N D7.d.scope k).Ok) (C : Calls tb (Cxt.mk cn wx XP P w mg base D7.N D7.d.scope k) S S') : SSs (Cxt.mk cn wx XP P w mg base D7.N D7.d.scope k) D7.d.body (c_Reader___init__ S S') :=
  have hB := ok.B
  have hR := ok.R
  have hF := ok.F
  have hL := ok.L
  (ss_cons (s_fld hB rfl (fl0 C) rfl (.inl rfl) (se_var hB rfl (.inl rfl))) (ss_cons (s_fld hB rfl (fl1 C) rfl (.inl rfl) se_int) (ss_one (s_fld hB rfl (fl2 C) rfl (.inl rfl) se_int))))
theorem b8 {cn : Cn} {wx : WX} {XP : Cx → Prop} {P : Program} {w : World} {mg : Str → Option Value} {base : Heap} {k : Nat} {S S' : Nat → FSem} (ok : (Cxt.mk cn wx XP P w mg base D8.N D8.d.scope k).Ok) (C : Calls tb (Cxt.mk cn wx XP P w mg base D8.N D8.d.scope k) S S') : SSs (Cxt.mk cn wx XP P w mg base D8.N D8.d.scope k) D8.d.body (c_Reader_ahead S S') :=
  have hB := ok.B
  have hR := ok.R
  have hF := ok.F
  have hL := ok.L
  (ss_one (s_ret (se_slice hB.K (se_fld hB rfl (fl0 C) (se_var hB rfl (.inl rfl))) (sp_some (se_fld hB rfl (fl1 C) (se_var hB rfl (.inl rfl)))) (sp_some (se_add hB (se_fld hB rfl (fl1 C) (se_var hB rfl (.inl rfl))) se_int)))))
theorem b9 {cn : Cn} {wx : WX} {XP : Cx → Prop} {P : Program} {w : World} {mg : Str → Option Value} {base : Heap} {k : Nat} {S S' : Nat → FSem} (ok : (Cxt.mk cn wx XP P w mg base D9.N D9.d.scope k).Ok) (C : Calls tb (Cxt.mk cn wx XP P w mg base D9.N D9.d.scope k) S S') : SSs (Cxt.mk cn wx XP P w mg base D9.N D9.d.scope k) D9.d.body (c_Reader_take S S') :=
  have hB := ok.B
  have hR := ok.R
  have hF := ok.F
  have hL := ok.L
  (ss_cons (s_set hB rfl hF (.inl rfl) (se_meth0 hB hR ok.flat rfl (me8 C) (se_var hB rfl (.inl rfl)))) (ss_cons (s_if (st_cp (cr_eq hR) (se_var hB rfl (.inl rfl)) (se_str rfl (by decide)) rfl) (ss_one (s_raise hB hR (xc1 C) rfl)) ss_nil) (ss_cons (s_fld hB rfl (fl1 C) rfl (.inl rfl) (se_add hB (se_fld hB rfl (fl1 C) (se_var hB rfl (.inl rfl))) se_int)) (ss_one (s_ret (se_var hB rfl (.inl rfl)))))))
theorem b10 {cn : Cn} {wx : WX} {XP : Cx → Prop} {P : Program} {w : World} {mg : Str → Option Value} {base : Heap} {k : Nat} {S S' : Nat → FSem} (ok : (Cxt.mk cn wx XP P w mg base D10.N D10.d.scope k).Ok) (C : Calls tb (Cxt.mk cn wx XP P w mg base D10.N D10.d.scope k) S S') : SSs (Cxt.mk cn wx XP P w mg base D10.N D10.d.scope k) D10.d.body (c_Reader_want S S') :=
  have hB := ok.B
  have hR := ok.R
  have hF := ok.F
  have hL := ok.L
  (ss_one (s_if (st_cp (cr_ne hR) (se_meth0 hB hR ok.flat rfl (me9 C) (se_var hB rfl (.inl rfl))) (se_var hB rfl (.inl rfl)) rfl) (ss_one (s_raise hB hR (xc1 C) rfl)) ss_nil))
theorem b11 {cn : Cn} {wx : WX} {XP : Cx → Prop} {P : Program} {w : World} {mg : Str → Option Value} {base : Heap} {k : Nat} {S S' : Nat → FSem} (ok : (Cxt.mk cn wx XP P w mg base D11.N D11.d.scope k).Ok) (C : Calls tb (Cxt.mk cn wx XP P w mg base D11.N D11.d.scope k) S S') : SSs (Cxt.mk cn wx XP P w mg base D11.N D11.d.scope k) D11.d.body (c_Reader_figure S S') :=
  have hB := ok.B
  have hR := ok.R
  have hF := ok.F
  have hL := ok.L
  (ss_cons (s_set hB rfl hF (.inl rfl) (se_meth0 hB hR ok.flat rfl (me9 C) (se_var hB rfl (.inl rfl)))) (ss_cons (s_if (st_cp (cr_nin hB) (se_var hB rfl (.inl rfl)) (se_gstr hB (st2 C) rfl) rfl) (ss_one (s_raise hB hR (xc1 C) rfl)) ss_nil) (ss_one (s_ret (se_int1 hB rfl (fr1 C) (se_var hB rfl (.inl rfl)))))))
theorem b12 {cn : Cn} {wx : WX} {XP : Cx → Prop} {P : Program} {w : World} {mg : Str → Option Value} {base : Heap} {k : Nat} {S S' : Nat → FSem} (ok : (Cxt.mk cn wx XP P w mg base D12.N D12.d.scope k).Ok) (C : Calls tb (Cxt.mk cn wx XP P w mg base D12.N D12.d.scope k) S S') : SSs (Cxt.mk cn wx XP P w mg base D12.N D12.d.scope k) D12.d.body (c_Reader_whole S S') :=
  have hB := ok.B
  have hR := ok.R
  have hF := ok.F
  have hL := ok.L
  (ss_cons (s_if (st_cp cr_gt (se_var hB rfl (.inl rfl)) (se_mul se_int (se_gint hB (in1 C) rfl)) rfl) (ss_one (s_raise hB hR (xc1 C) rfl)) ss_nil) (ss_cons (s_own hB rfl hF (.inl rfl) (sl_lst (sa_cons (se_meth hB hR ok.flat rfl (me13 C) (se_var hB rfl (.inl rfl)) (sa_cons (se_var hB rfl (.inl rfl)) sa_nil)) sa_nil))) (ss_cons (s_while hL (st_cp (cr_eq hR) (se_meth0 hB hR ok.flat rfl (me8 C) (se_var hB rfl (.inl rfl))) (se_str rfl (by decide)) rfl) (ss_cons (s_fld hB rfl (fl1 C) rfl (.inl rfl) (se_add hB (se_fld hB rfl (fl1 C) (se_var hB rfl (.inl rfl))) se_int)) (ss_one (s_expr (se_append hB rfl (.inl rfl) (se_meth hB hR ok.flat rfl (me13 C) (se_var hB rfl (.inl rfl)) (sa_cons (se_var hB rfl (.inl rfl)) sa_nil))))))) (ss_cons (s_if (st_cp (cr_eq hR) (se_len hB rfl (fr3 C) (se_var hB rfl (.inl rfl))) se_int rfl) (ss_one (s_ret (se_item hB.K (se_var hB rfl (.inl rfl)) se_int (fun _ _ => rfl)))) ss_nil) (ss_one (s_ret (se_tup (sa_cons (se_str rfl (by decide)) (sa_cons (se_tuple hB rfl (fr4 C) (se_var hB rfl (.inl rfl))) sa_nil)))))))))
theorem b13 {cn : Cn} {wx : WX} {XP : Cx → Prop} {P : Program} {w : World} {mg : Str → Option Value} {base : Heap} {k : Nat} {S S' : Nat → FSem} (ok : (Cxt.mk cn wx XP P w mg base D13.N D13.d.scope k).Ok) (C : Calls tb (Cxt.mk cn wx XP P w mg base D13.N D13.d.scope k) S S') : SSs (Cxt.mk cn wx XP P w mg base D13.N D13.d.scope k) D13.d.body (c_Reader_branch S S') :=
  have hB := ok.B
  have hR := ok.R
  have hF := ok.F
  have hL := ok.L
  (ss_cons (s_own hB rfl hF (.inl rfl) (sl_lst sa_nil)) (ss_cons (s_while hL (st_of_pw (spw_and (st_cp (cr_ne hR) (se_meth0 hB hR ok.flat rfl (me8 C) (se_var hB rfl (.inl rfl))) (se_str rfl (by decide)) rfl) (spw_and1 (st_cp (cr_nin hB) (se_meth0 hB hR ok.flat rfl (me8 C) (se_var hB rfl (.inl rfl))) (se_str rfl (by decide)) rfl)))) (ss_one (s_expr (se_append hB rfl (.inl rfl) (se_meth hB hR ok.flat rfl (me14 C) (se_var hB rfl (.inl rfl)) (sa_cons (se_meth hB hR ok.flat rfl (me15 C) (se_var hB rfl (.inl rfl)) (sa_cons (se_var hB rfl (.inl rfl)) sa_nil)) sa_nil)))))) (ss_cons (s_if (st_cp (cr_eq hR) (se_len hB rfl (fr3 C) (se_var hB rfl (.inl rfl))) se_int rfl) (ss_one (s_ret (se_item hB.K (se_var hB rfl (.inl rfl)) se_int (fun _ _ => rfl)))) ss_nil) (ss_one (s_ret (se_tup (sa_cons (se_str rfl (by decide)) (sa_cons (se_tuple hB rfl (fr4 C) (se_var hB rfl (.inl rfl))) sa_nil))))))))
theorem b14 {cn : Cn} {wx : WX} {XP : Cx → Prop} {P : Program} {w : World} {mg : Str → Option Value} {base : Heap} {k : Nat} {S S' : Nat → FSem} (ok : (Cxt.mk cn wx XP P w mg base D14.N D14.d.scope k).Ok) (C : Calls tb (Cxt.mk cn wx XP P w mg base D14.N D14.d.scope k) S S') : SSs (Cxt.mk cn wx XP P w mg base D14.N D14.d.scope k) D14.d.body (c_Reader_turned S S') :=
  have hB := ok.B
  have hR := ok.R
  have hF := ok.F
  have hL := ok.L
  (ss_cons (s_if (st_cp (cr_eq hR) (se_meth0 hB hR ok.flat rfl (me8 C) (se_var hB rfl (.inl rfl))) (se_str rfl (by decide)) rfl) (ss_cons (s_fld hB rfl (fl1 C) rfl (.inl rfl) (se_add hB (se_fld hB rfl (fl1 C) (se_var hB rfl (.inl rfl))) se_int)) (ss_cons (s_set hB rfl hF (.inl rfl) (se_meth0 hB hR ok.flat rfl (me11 C) (se_var hB rfl (.inl rfl)))) (ss_cons (s_expr (se_meth hB hR ok.flat rfl (me10 C) (se_var hB rfl (.inl rfl)) (sa_cons (se_str rfl (by decide)) sa_nil))) (ss_cons (s_set hB rfl hF (.inl rfl) se_non) (ss_cons (s_if (st_of_pw (spw_and (st_cp (cr_ne hR) (se_meth0 hB hR ok.flat rfl (me8 C) (se_var hB rfl (.inl rfl))) (se_str rfl (by decide)) rfl) (spw_and1 (st_cp (cr_in hB) (se_meth0 hB hR ok.flat rfl (me8 C) (se_var hB rfl (.inl rfl))) (se_gstr hB (st2 C) rfl) rfl)))) (ss_one (s_set hB rfl hF (.inl rfl) (se_meth0 hB hR ok.flat rfl (me11 C) (se_var hB rfl (.inl rfl))))) ss_nil) (ss_cons (s_set hB rfl hF (.inl rfl) (se_str rfl (by decide))) (ss_cons (s_if (st_cp (cr_eq hR) (se_meth0 hB hR ok.flat rfl (me8 C) (se_var hB rfl (.inl rfl))) (se_str rfl (by decide)) rfl) (ss_one (s_set hB rfl hF (.inl rfl) (se_str rfl (by decide)))) ss_nil) (ss_cons (s_if (st_cp (cr_eq hR) (se_meth0 hB hR ok.flat rfl (me8 C) (se_var hB rfl (.inl rfl))) (se_str rfl (by decide)) rfl) (ss_one (s_set hB rfl hF (.inl rfl) (se_str rfl (by decide)))) ss_nil) (ss_cons (s_if (st_cp (cr_ne hR) (se_var hB rfl (.inl rfl)) (se_str rfl (by decide)) rfl) (ss_one (s_fld hB rfl (fl1 C) rfl (.inl rfl) (se_add hB (se_fld hB rfl (fl1 C) (se_var hB rfl (.inl rfl))) se_int))) ss_nil) (ss_cons (s_expr (se_meth hB hR ok.flat rfl (me10 C) (se_var hB rfl (.inl rfl)) (sa_cons (se_str rfl (by decide)) sa_nil))) (ss_cons (s_if (st_of_pw (spw_and (st_notN (se_var hB rfl (.inl rfl))) (spw_and1 (st_of_pw (spw_or (st_cp cr_lt (se_var hB rfl (.inl rfl)) (se_var hB rfl (.inl rfl)) rfl) (spw_or1 (st_cp (cr_eq hR) (se_var hB rfl (.inl rfl)) se_int rfl))))))) (ss_one (s_raise hB hR (xc1 C) rfl)) ss_nil) (ss_one (s_set hB rfl hF (.inl rfl) (se_tup (sa_cons (se_str rfl (by decide)) (sa_cons (se_var hB rfl (.inl rfl)) (sa_cons (se_var hB rfl (.inl rfl)) (sa_cons (se_var hB rfl (.inl rfl)) (sa_cons (se_var hB rfl (.inl rfl)) sa_nil))))))))))))))))))) ss_nil) (ss_one (s_ret (se_var hB rfl (.inl rfl)))))
theorem b15 {cn : Cn} {wx : WX} {XP : Cx → Prop} {P : Program} {w : World} {mg : Str → Option Value} {base : Heap} {k : Nat} {S S' : Nat → FSem} (ok : (Cxt.mk cn wx XP P w mg base D15.N D15.d.scope k).Ok) (C : Calls tb (Cxt.mk cn wx XP P w mg base D15.N D15.d.scope k) S S') : SSs (Cxt.mk cn wx XP P w mg base D15.N D15.d.scope k) D15.d.body (c_Reader_one S S') :=
  have hB := ok.B
  have hR := ok.R
  have hF := ok.F
  have hL := ok.L
  (ss_cons (s_set hB rfl hF (.inl rfl) (se_meth0 hB hR ok.flat rfl (me9 C) (se_var hB rfl (.inl rfl)))) (ss_cons (s_if (st_cp (cr_eq hR) (se_var hB rfl (.inl rfl)) (se_str rfl (by decide)) rfl) (ss_cons (s_fld hB rfl (fl2 C) rfl (.inl rfl) (se_add hB (se_fld hB rfl (fl2 C) (se_var hB rfl (.inl rfl))) se_int)) (ss_cons (s_set hB rfl hF (.inl rfl) (se_fld hB rfl (fl2 C) (se_var hB rfl (.inl rfl)))) (ss_cons (s_set hB rfl hF (.inl rfl) (se_meth hB hR ok.flat rfl (me12 C) (se_var hB rfl (.inl rfl)) (sa_cons (se_add hB (se_var hB rfl (.inl rfl)) se_int) sa_nil))) (ss_cons (s_expr (se_meth hB hR ok.flat rfl (me10 C) (se_var hB rfl (.inl rfl)) (sa_cons (se_str rfl (by decide)) sa_nil))) (ss_one (s_ret (se_tup (sa_cons (se_str rfl (by decide)) (sa_cons (se_var hB rfl (.inl rfl)) (sa_cons (se_var hB rfl (.inl rfl)) sa_nil)))))))))) ss_nil) (ss_cons (s_if (st_cp (cr_eq hR) (se_var hB rfl (.inl rfl)) (se_str rfl (by decide)) rfl) (ss_one (s_ret (se_meth hB hR ok.flat rfl (me16 C) (se_var hB rfl (.inl rfl)) (sa_cons (se_var hB rfl (.inl rfl)) sa_nil)))) ss_nil) (ss_cons (s_if (st_cp (cr_eq hR) (se_var hB rfl (.inl rfl)) (se_str rfl (by decide)) rfl) (ss_one (s_ret (se_meth0 hB hR ok.flat rfl (me17 C) (se_var hB rfl (.inl rfl))))) ss_nil) (ss_cons (s_if (st_cp (cr_eq hR) (se_var hB rfl (.inl rfl)) (se_str rfl (by decide)) rfl) (ss_one (s_ret (se_tup (sa_cons (se_str rfl (by decide)) (sa_cons (se_meth0 hB hR ok.flat rfl (me11 C) (se_var hB rfl (.inl rfl))) sa_nil))))) ss_nil) (ss_cons (s_set hB rfl hF (.inl rfl) (se_dic (sd_cons (kt := [46]) (vt := [97, 110, 121]) rfl rfl (sd_cons (kt := [94]) (vt := [98, 101, 103, 105, 110]) rfl rfl (sd_cons (kt := [36]) (vt := [101, 110, 100]) rfl rfl sd_nil))))) (ss_cons (s_if (st_inD hR (se_var hB rfl (.inl rfl)) (se_var hB rfl (.inl rfl)) rfl) (ss_one (s_ret (se_tup (sa_cons (se_itemD hR (se_var hB rfl (.inl rfl)) (se_var hB rfl (.inl rfl)) (fun _ _ => rfl)) sa_nil)))) ss_nil) (ss_cons (s_if (st_cp (cr_eq hR) (se_var hB rfl (.inl rfl)) (se_str rfl (by decide)) rfl) (ss_cons (s_set hB rfl hF (.inl rfl) (se_meth0 hB hR ok.flat rfl (me9 C) (se_var hB rfl (.inl rfl)))) (ss_one (s_if (st_cp (cr_nin hB) (se_var hB rfl (.inl rfl)) (se_gstr hB (st0 C) rfl) rfl) (ss_one (s_raise hB hR (xc1 C) rfl)) ss_nil))) (ss_one (s_if (st_cp (cr_in hB) (se_var hB rfl (.inl rfl)) (se_gstr hB (st0 C) rfl) rfl) (ss_one (s_raise hB hR (xc1 C) rfl)) ss_nil))) (ss_one (s_ret (se_tup (sa_cons (se_str rfl (by decide)) (sa_cons (se_var hB rfl (.inl rfl)) sa_nil)))))))))))))
theorem b16 {cn : Cn} {wx : WX} {XP : Cx → Prop} {P : Program} {w : World} {mg : Str → Option Value} {base : Heap} {k : Nat} {S S' : Nat → FSem} (ok : (Cxt.mk cn wx XP P w mg base D16.N D16.d.scope k).Ok) (C : Calls tb (Cxt.mk cn wx XP P w mg base D16.N D16.d.scope k) S S') : SSs (Cxt.mk cn wx XP P w mg base D16.N D16.d.scope k) D16.d.body (c_Reader_bracket S S') :=
  have hB := ok.B
  have hR := ok.R
  have hF := ok.F
  have hL := ok.L
  (ss_cons (s_set hB rfl hF (.inr rfl) (se_meth0 hB hR ok.flat rfl (me9 C) (se_var hB rfl (.inl rfl)))) (ss_cons (s_set hB rfl hF (.inl rfl) (se_meth hB hR ok.flat rfl (me12 C) (se_var hB rfl (.inl rfl)) (sa_cons (se_add hB (se_var hB rfl (.inl rfl)) se_int) sa_nil))) (ss_cons (s_if (st_cp (cr_in hB) (se_var hB rfl (.inr (.inl rfl))) (se_gstr hB (st2 C) rfl) rfl) (ss_cons (s_expr (se_meth hB hR ok.flat rfl (me10 C) (se_var hB rfl (.inl rfl)) (sa_cons (se_str rfl (by decide)) sa_nil))) (ss_one (s_set hB rfl hF (.inl rfl) (se_tup (sa_cons (se_str rfl (by decide)) (sa_cons (se_int1 hB rfl (fr1 C) (se_var hB rfl (.inr (.inl rfl)))) (sa_cons (se_var hB rfl (.inl rfl)) (sa_cons (se_meth hB hR ok.flat rfl (me12 C) (se_var hB rfl (.inl rfl)) (sa_cons (se_add hB (se_var hB rfl (.inl rfl)) se_int) sa_nil)) sa_nil)))))))) (ss_one (s_if (st_cp (cr_ne hR) (se_var hB rfl (.inr (.inl rfl))) (se_str rfl (by decide)) rfl) (ss_cons (s_ownComp2 hB hR (dc0 C) rfl rfl rfl rfl rfl (by rfl) rfl rfl (fun X hx => sw_true (by rw [(hB X hx).sc]; rfl) (by rw [(hB X hx).sc]; rfl) rfl rfl) (sf_one (st_cp (cr_eq hR.blk) (se_var hB.blk rfl (.inl rfl)) (se_var hB.blk rfl (.inr (.inl rfl))) rfl)) (se_var hB.blk rfl (.inl rfl))) (ss_cons (s_if (st_cp (cr_eq hR) (se_var hB rfl (.inl rfl)) (se_of_sl (sl_lst sa_nil)) rfl) (ss_one (s_raise hB hR (xc1 C) rfl)) ss_nil) (ss_one (s_set hB rfl hF (.inl rfl) (se_tup (sa_cons (se_item hB.K (se_var hB rfl (.inl rfl)) se_int (fun _ _ => rfl)) (sa_cons (se_var hB rfl (.inl rfl)) sa_nil))))))) ss_nil))) (ss_cons (s_expr (se_meth hB hR ok.flat rfl (me10 C) (se_var hB rfl (.inl rfl)) (sa_cons (se_str rfl (by decide)) sa_nil))) (ss_one (s_ret (se_var hB rfl (.inl rfl))))))))
theorem b17 {cn : Cn} {wx : WX} {XP : Cx → Prop} {P : Program} {w : World} {mg : Str → Option Value} {base : Heap} {k : Nat} {S S' : Nat → FSem} (ok : (Cxt.mk cn wx XP P w mg base D17.N D17.d.scope k).Ok) (C : Calls tb (Cxt.mk cn wx XP P w mg base D17.N D17.d.scope k) S S') : SSs (Cxt.mk cn wx XP P w mg base D17.N D17.d.scope k) D17.d.body (c_Reader_signs S S') :=
  have hB := ok.B
  have hR := ok.R
  have hF := ok.F
  have hL := ok.L
  (ss_cons (s_set hB rfl hF (.inl rfl) (se_str rfl (by decide))) (ss_cons (s_if (st_cp (cr_eq hR) (se_meth0 hB hR ok.flat rfl (me8 C) (se_var hB rfl (.inl rfl))) (se_str rfl (by decide)) rfl) (ss_cons (s_set hB rfl hF (.inl rfl) (se_str rfl (by decide))) (ss_one (s_fld hB rfl (fl1 C) rfl (.inl rfl) (se_add hB (se_fld hB rfl (fl1 C) (se_var hB rfl (.inl rfl))) se_int)))) ss_nil) (ss_cons (s_own hB rfl hF (.inl rfl) (sl_lst sa_nil)) (ss_cons (s_while hL (st_cp (cr_ne hR) (se_meth0 hB hR ok.flat rfl (me8 C) (se_var hB rfl (.inl rfl))) (se_str rfl (by decide)) rfl) (ss_cons (s_set hB rfl hF (.inl rfl) (se_meth0 hB hR ok.flat rfl (me18 C) (se_var hB rfl (.inl rfl)))) (ss_cons (s_set hB rfl hF (.inl rfl) (se_var hB rfl (.inl rfl))) (ss_cons (s_if (st_cp (cr_eq hR) (se_meth0 hB hR ok.flat rfl (me8 C) (se_var hB rfl (.inl rfl))) (se_str rfl (by decide)) rfl) (ss_cons (s_fld hB rfl (fl1 C) rfl (.inl rfl) (se_add hB (se_fld hB rfl (fl1 C) (se_var hB rfl (.inl rfl))) se_int)) (ss_one (s_set hB rfl hF (.inl rfl) (se_meth0 hB hR ok.flat rfl (me18 C) (se_var hB rfl (.inl rfl)))))) ss_nil) (ss_one (s_expr (se_append hB rfl (.inl rfl) (se_tup (sa_cons (se_var hB rfl (.inl rfl)) (sa_cons (se_var hB rfl (.inl rfl)) sa_nil)))))))))) (ss_cons (s_fld hB rfl (fl1 C) rfl (.inl rfl) (se_add hB (se_fld hB rfl (fl1 C) (se_var hB rfl (.inl rfl))) se_int)) (ss_one (s_ret (se_tup (sa_cons (se_var hB rfl (.inl rfl)) (sa_cons (se_tuple hB rfl (fr4 C) (se_var hB rfl (.inl rfl))) sa_nil))))))))))
theorem b18 {cn : Cn} {wx : WX} {XP : Cx → Prop} {P : Program} {w : World} {mg : Str → Option Value} {base : Heap} {k : Nat} {S S' : Nat → FSem} (ok : (Cxt.mk cn wx XP P w mg base D18.N D18.d.scope k).Ok) (C : Calls tb (Cxt.mk cn wx XP P w mg base D18.N D18.d.scope k) S S') : SSs (Cxt.mk cn wx XP P w mg base D18.N D18.d.scope k) D18.d.body (c_Reader_within S S') :=
  have hB := ok.B
  have hR := ok.R
  have hF := ok.F
  have hL := ok.L
  (ss_cons (s_set hB rfl hF (.inl rfl) (se_meth0 hB hR ok.flat rfl (me9 C) (se_var hB rfl (.inl rfl)))) (ss_cons (s_if (st_cp (cr_eq hR) (se_var hB rfl (.inl rfl)) (se_str rfl (by decide)) rfl) (ss_cons (s_set hB rfl hF (.inl rfl) (se_meth0 hB hR ok.flat rfl (me9 C) (se_var hB rfl (.inl rfl)))) (ss_one (s_if (st_cp (cr_nin hB) (se_var hB rfl (.inl rfl)) (se_gstr hB (st1 C) rfl) rfl) (ss_one (s_raise hB hR (xc1 C) rfl)) ss_nil))) (ss_one (s_if (st_cp (cr_in hB) (se_var hB rfl (.inl rfl)) (se_gstr hB (st1 C) rfl) rfl) (ss_one (s_raise hB hR (xc1 C) rfl)) ss_nil))) (ss_one (s_ret (se_var hB rfl (.inl rfl))))))
theorem b19 {cn : Cn} {wx : WX} {XP : Cx → Prop} {P : Program} {w : World} {mg : Str → Option Value} {base : Heap} {k : Nat} {S S' : Nat → FSem} (ok : (Cxt.mk cn wx XP P w mg base D19.N D19.d.scope k).Ok) (C : Calls tb (Cxt.mk cn wx XP P w mg base D19.N D19.d.scope k) S S') : SSs (Cxt.mk cn wx XP P w mg base D19.N D19.d.scope k) D19.d.body (c_look_at S S') :=
  have hB := ok.B
  have hR := ok.R
  have hF := ok.F
  have hL := ok.L
  (ss_cons (s_if (st_cp cr_gt (se_var hB rfl (.inl rfl)) (se_gint hB (in1 C) rfl) rfl) (ss_one (s_raise hB hR (xc1 C) rfl)) ss_nil) (ss_cons (s_set hB rfl hF (.inl rfl) (se_item hB.K (se_var hB rfl (.inl rfl)) se_int (fun _ _ => rfl))) (ss_cons (s_set hB rfl hF (.inl rfl) (se_call hB hR (gl0 C) rfl (sa_cons (se_var hB rfl (.inl rfl)) sa_nil))) (ss_cons (s_if (st_cp cr_gt (se_len hB rfl (fr3 C) (se_var hB rfl (.inl rfl))) (se_gint hB (in3 C) rfl) rfl) (ss_one (s_raise hB hR (xc1 C) rfl)) ss_nil) (ss_cons (s_if (st_of_pw (spw_and (st_cp (cr_in hB) (se_var hB rfl (.inl rfl)) (se_tup (sa_cons (se_str rfl (by decide)) (sa_cons (se_str rfl (by decide)) sa_nil))) rfl) (spw_and1 (st_not (st_chainLe se_int (se_item hB.K (se_var hB rfl (.inl rfl)) se_int (fun _ _ => rfl)) (se_var hB rfl (.inl rfl)) rfl))))) (ss_one (s_raise hB hR (xc1 C) rfl)) ss_nil) (ss_cons (s_if (st_cp (cr_in hB) (se_var hB rfl (.inl rfl)) (se_tup (sa_cons (se_str rfl (by decide)) (sa_cons (se_str rfl (by decide)) sa_nil))) rfl) (ss_cons (s_if (st_not (st_chainLe se_int (se_len hB rfl (fr3 C) (se_item hB.K (se_var hB rfl (.inl rfl)) se_int (fun _ _ => rfl))) (se_gint hB (in3 C) rfl) rfl)) (ss_one (s_raise hB hR (xc1 C) rfl)) ss_nil) (ss_one (s_for hB hR hL hF rfl (.inl rfl) (si_val hB (se_item hB.K (se_var hB rfl (.inl rfl)) se_int (fun _ _ => rfl))) (ss_one (s_if (st_cp cr_gt (se_ord hB rfl (fr5 C) (se_item hB.K (se_var hB rfl (.inl rfl)) se_int (fun _ _ => rfl))) (se_ord hB rfl (fr5 C) (se_item hB.K (se_var hB rfl (.inl rfl)) se_int (fun _ _ => rfl))) rfl) (ss_one (s_raise hB hR (xc1 C) rfl)) ss_nil))))) ss_nil) (ss_cons (s_set hB rfl hF (.inl rfl) se_int) (ss_cons (s_for hB hR hL hF rfl (.inl rfl) (si_val hB (se_var hB rfl (.inl rfl))) (ss_one (s_set hB rfl hF (.inl rfl) (se_add hB (se_var hB rfl (.inl rfl)) (se_call hB hR (gl19 C) rfl (sa_cons (se_var hB rfl (.inl rfl)) (sa_cons (se_var hB rfl (.inl rfl)) (sa_cons (se_add hB (se_var hB rfl (.inl rfl)) se_int) sa_nil)))))))) (ss_cons (s_if (st_cp cr_gt (se_var hB rfl (.inl rfl)) (se_gint hB (in0 C) rfl) rfl) (ss_one (s_raise hB hR (xc1 C) rfl)) ss_nil) (ss_one (s_ret (se_var hB rfl (.inl rfl)))))))))))))
theorem b20 {cn : Cn} {wx : WX} {XP : Cx → Prop} {P : Program} {w : World} {mg : Str → Option Value} {base : Heap} {k : Nat} {S S' : Nat → FSem} (ok : (Cxt.mk cn wx XP P w mg base D20.N D20.d.scope k).Ok) (C : Calls tb (Cxt.mk cn wx XP P w mg base D20.N D20.d.scope k) S S') : SSs (Cxt.mk cn wx XP P w mg base D20.N D20.d.scope k) D20.d.body (c_read_pattern S S') :=
  have hB := ok.B
  have hR := ok.R
  have hF := ok.F
  have hL := ok.L
  (ss_cons (s_new hB hR ok.flat (nw7 C) rfl (sa_cons (se_var hB rfl (.inl rfl)) sa_nil) rfl hF (.inl rfl)) (ss_cons (s_set hB rfl hF (.inl rfl) (se_meth hB hR ok.flat rfl (me12 C) (se_var hB rfl (.inl rfl)) (sa_cons se_int sa_nil))) (ss_cons (s_if (st_cp (cr_ne hR) (se_meth0 hB hR ok.flat rfl (me8 C) (se_var hB rfl (.inl rfl))) (se_str rfl (by decide)) rfl) (ss_one (s_raise hB hR (xc1 C) rfl)) ss_nil) (ss_cons (s_set hB rfl hF (.inl rfl) (se_call hB hR (gl1 C) rfl (sa_cons (se_var hB rfl (.inl rfl)) sa_nil))) (ss_cons (s_if (st_cp cr_gt (se_var hB rfl (.inl rfl)) (se_gint hB (in2 C) rfl) rfl) (ss_one (s_raise hB hR (xc1 C) rfl)) ss_nil) (ss_cons (s_expr (se_call hB hR (gl19 C) rfl (sa_cons (se_var hB rfl (.inl rfl)) (sa_cons (se_var hB rfl (.inl rfl)) (sa_cons se_int sa_nil))))) (ss_cons (s_if (st_cp (cr_ne hR) (se_call hB hR (gl6 C) rfl (sa_cons (se_var hB rfl (.inl rfl)) sa_nil)) (se_var hB rfl (.inl rfl)) rfl) (ss_one (s_raise hB hR (xc1 C) rfl)) ss_nil) (ss_one (s_ret (se_var hB rfl (.inl rfl)))))))))))
theorem b21 {cn : Cn} {wx : WX} {XP : Cx → Prop} {P : Program} {w : World} {mg : Str → Option Value} {base : Heap} {k : Nat} {S S' : Nat → FSem} (ok : (Cxt.mk cn wx XP P w mg base D21.N D21.d.scope k).Ok) (C : Calls tb (Cxt.mk cn wx XP P w mg base D21.N D21.d.scope k) S S') : SSs (Cxt.mk cn wx XP P w mg base D21.N D21.d.scope k) D21.d.body (c_law_take S S') :=
  have hB := ok.B
  have hR := ok.R
  have hF := ok.F
  have hL := ok.L
  (ss_cons (s_if (st_cp (cr_eq hR) (se_var hB rfl (.inl rfl)) (se_of_sl (sl_lst sa_nil)) rfl) (ss_one (s_ret se_int)) ss_nil) (ss_cons (s_set hB rfl hF (.inl rfl) (se_item hB.K (se_var hB rfl (.inl rfl)) se_int (fun _ _ => rfl))) (ss_cons (s_item hB rfl (.inl rfl) se_int (se_div (se_var hB rfl (.inl rfl)) (se_var hB rfl (.inl rfl)))) (ss_cons (s_if (st_of_pw (spw_or (st_cp (cr_eq hR) (se_item hB.K (se_var hB rfl (.inl rfl)) se_int (fun _ _ => rfl)) se_int rfl) (spw_or1 (st_cp (cr_eq hR) (se_item hB.K (se_var hB rfl (.inl rfl)) se_int (fun _ _ => rfl)) (se_neg se_int) rfl)))) (ss_one (s_expr (se_pop0 hB rfl (.inl rfl)))) ss_nil) (ss_one (s_ret (se_mod (se_var hB rfl (.inl rfl)) (se_var hB rfl (.inl rfl)))))))))
theorem b22 {cn : Cn} {wx : WX} {XP : Cx → Prop} {P : Program} {w : World} {mg : Str → Option Value} {base : Heap} {k : Nat} {S S' : Nat → FSem} (ok : (Cxt.mk cn wx XP P w mg base D22.N D22.d.scope k).Ok) (C : Calls tb (Cxt.mk cn wx XP P w mg base D22.N D22.d.scope k) S S') : SSs (Cxt.mk cn wx XP P w mg base D22.N D22.d.scope k) D22.d.body (c_law_sign S S') :=
  have hB := ok.B
  have hR := ok.R
  have hF := ok.F
  have hL := ok.L
  (ss_cons (s_set hB rfl hF (.inl rfl) (se_str rfl (by decide))) (ss_cons (s_set hB rfl hF (.inl rfl) (se_add hB (se_var hB rfl (.inl rfl)) (se_str rfl (by decide)))) (ss_one (s_ret (se_item hB.K (se_var hB rfl (.inl rfl)) (se_mod (se_var hB rfl (.inl rfl)) se_int) (fun _ _ => rfl))))))
theorem b23 {cn : Cn} {wx : WX} {XP : Cx → Prop} {P : Program} {w : World} {mg : Str → Option Value} {base : Heap} {k : Nat} {S S' : Nat → FSem} (ok : (Cxt.mk cn wx XP P w mg base D23.N D23.d.scope k).Ok) (C : Calls tb (Cxt.mk cn wx XP P w mg base D23.N D23.d.scope k) S S') : SSs (Cxt.mk cn wx XP P w mg base D23.N D23.d.scope k) D23.d.body (c_law_letters S S') :=
  have hB := ok.B
  have hR := ok.R
  have hF := ok.F
  have hL := ok.L
  (ss_one (s_retL (sl_comp hB hR rfl (by rfl) rfl (si_rng hB rfl (fr6 C) se_int) sf_nil (se_call hB.blk hR.blk (gl22 C.blk) rfl (sa_cons (se_call hB.blk hR.blk (gl21 C.blk) rfl (sa_cons (se_var hB.blk rfl (.inr (.inl rfl))) (sa_cons se_int sa_nil))) sa_nil)))))
theorem b24 {cn : Cn} {wx : WX} {XP : Cx → Prop} {P : Program} {w : World} {mg : Str → Option Value} {base : Heap} {k : Nat} {S S' : Nat → FSem} (ok : (Cxt.mk cn wx XP P w mg base D24.N D24.d.scope k).Ok) (C : Calls tb (Cxt.mk cn wx XP P w mg base D24.N D24.d.scope k) S S') : SSs (Cxt.mk cn wx XP P w mg base D24.N D24.d.scope k) D24.d.body (c_law_runs S S') :=
  have hB := ok.B
  have hR := ok.R
  have hF := ok.F
  have hL := ok.L
  (ss_cons (s_own hB rfl hF (.inl rfl) (sl_lst sa_nil)) (ss_cons (s_for hB hR hL hF rfl (.inl rfl) (si_rng hB rfl (fr6 C) (se_add hB se_int (se_call hB hR (gl21 C) rfl (sa_cons (se_var hB rfl (.inl rfl)) (sa_cons se_int sa_nil))))) (ss_cons (s_set hB rfl hF (.inl rfl) (se_item hB.K (se_var hB rfl (.inl rfl)) (se_call hB hR (gl21 C) rfl (sa_cons (se_var hB rfl (.inl rfl)) (sa_cons se_int sa_nil))) (fun _ _ => rfl))) (ss_cons (s_set hB rfl hF (.inl rfl) (se_item hB.K (se_var hB rfl (.inl rfl)) (se_call hB hR (gl21 C) rfl (sa_cons (se_var hB rfl (.inl rfl)) (sa_cons se_int sa_nil))) (fun _ _ => rfl))) (ss_one (s_if (st_cp cr_gt (se_ord hB rfl (fr5 C) (se_var hB rfl (.inl rfl))) (se_ord hB rfl (fr5 C) (se_var hB rfl (.inl rfl))) rfl) (ss_one (s_expr (se_append hB rfl (.inl rfl) (se_tup (sa_cons (se_var hB rfl (.inl rfl)) (sa_cons (se_var hB rfl (.inl rfl)) sa_nil)))))) (ss_one (s_expr (se_append hB rfl (.inl rfl) (se_tup (sa_cons (se_var hB rfl (.inl rfl)) (sa_cons (se_var hB rfl (.inl rfl)) sa_nil))))))))))) (ss_one (s_ret (se_tuple hB rfl (fr4 C) (se_var hB rfl (.inl rfl)))))))
theorem b25 {cn : Cn} {wx : WX} {XP : Cx → Prop} {P : Program} {w : World} {mg : Str → Option Value} {base : Heap} {k : Nat} {S S' : Nat → FSem} (ok : (Cxt.mk cn wx XP P w mg base D25.N D25.d.scope k).Ok) (C : Calls tb (Cxt.mk cn wx XP P w mg base D25.N D25.d.scope k) S S') : SSs (Cxt.mk cn wx XP P w mg base D25.N D25.d.scope k) D25.d.body (c_law_leaf S S') :=
  have hB := ok.B
  have hR := ok.R
  have hF := ok.F
  have hL := ok.L
  (ss_cons (s_set hB rfl hF (.inl rfl) (se_call hB hR (gl21 C) rfl (sa_cons (se_var hB rfl (.inl rfl)) (sa_cons se_int sa_nil)))) (ss_cons (s_if (st_cp cr_lt (se_var hB rfl (.inl rfl)) se_int rfl) (ss_one (s_ret (se_tup (sa_cons (se_str rfl (by decide)) (sa_cons (se_item hB.K (se_var hB rfl (.inl rfl)) (se_call hB hR (gl21 C) rfl (sa_cons (se_var hB rfl (.inl rfl)) (sa_cons se_int sa_nil))) (fun _ _ => rfl)) sa_nil))))) ss_nil) (ss_cons (s_if (st_cp (cr_eq hR) (se_var hB rfl (.inl rfl)) se_int rfl) (ss_one (s_ret (se_tup (sa_cons (se_str rfl (by decide)) sa_nil)))) ss_nil) (ss_cons (s_if (st_cp cr_lt (se_var hB rfl (.inl rfl)) se_int rfl) (ss_one (s_ret (se_tup (sa_cons (se_item hB.K (se_of_sl (sl_lst (sa_cons (se_str rfl (by decide)) (sa_cons (se_str rfl (by decide)) sa_nil)))) (se_sub (se_var hB rfl (.inl rfl)) se_int) (fun _ _ => rfl)) (sa_cons (se_call hB hR (gl24 C) rfl (sa_cons (se_var hB rfl (.inl rfl)) (sa_cons (se_var hB rfl (.inl rfl)) sa_nil))) sa_nil))))) ss_nil) (ss_cons (s_if (st_of_pw (spw_or (st_cp (cr_eq hR) (se_var hB rfl (.inl rfl)) se_int rfl) (spw_or (st_cp (cr_eq hR) (se_item hB.K (se_var hB rfl (.inl rfl)) se_int (fun _ _ => rfl)) se_int rfl) (spw_or1 (st_cp (cr_eq hR) (se_item hB.K (se_var hB rfl (.inl rfl)) se_int (fun _ _ => rfl)) se_int rfl))))) (ss_one (s_ret (se_tup (sa_cons (se_item hB.K (se_of_sl (sl_lst (sa_cons (se_str rfl (by decide)) (sa_cons (se_str rfl (by decide)) sa_nil)))) (se_call hB hR (gl21 C) rfl (sa_cons (se_var hB rfl (.inl rfl)) (sa_cons se_int sa_nil))) (fun _ _ => rfl)) sa_nil)))) ss_nil) (ss_one (s_ret (se_tup (sa_cons (se_str rfl (by decide)) (sa_cons (se_add hB se_int (se_call hB hR (gl21 C) rfl (sa_cons (se_var hB rfl (.inl rfl)) (sa_cons (se_item hB.K (se_var hB rfl (.inl rfl)) se_int (fun _ _ => rfl)) sa_nil)))) sa_nil))))))))))
theorem b26 {cn : Cn} {wx : WX} {XP : Cx → Prop} {P : Program} {w : World} {mg : Str → Option Value} {base : Heap} {k : Nat} {S S' : Nat → FSem} (ok : (Cxt.mk cn wx XP P w mg base D26.N D26.d.scope k).Ok) (C : Calls tb (Cxt.mk cn wx XP P w mg base D26.N D26.d.scope k) S S') : SSs (Cxt.mk cn wx XP P w mg base D26.N D26.d.scope k) D26.d.body (c_law_parts S S') :=
  have hB := ok.B
  have hR := ok.R
  have hF := ok.F
  have hL := ok.L
  (ss_cons (s_own hB rfl hF (.inl rfl) (sl_lst sa_nil)) (ss_cons (s_for hB hR hL hF rfl (.inl rfl) (si_rng hB rfl (fr6 C) (se_add hB se_int (se_mul (se_int1 hB rfl (fr1 C) (se_cp cr_gt (se_var hB rfl (.inl rfl)) se_int rfl)) (se_call hB hR (gl21 C) rfl (sa_cons (se_var hB rfl (.inl rfl)) (sa_cons se_int sa_nil)))))) (ss_cons (s_set hB rfl hF (.inl rfl) (se_call hB hR (gl28 C) rfl (sa_cons (se_var hB rfl (.inl rfl)) (sa_cons (se_var hB rfl (.inl rfl)) (sa_cons (se_var hB rfl (.inl rfl)) (sa_cons (se_sub (se_var hB rfl (.inl rfl)) se_int) sa_nil)))))) (ss_cons (s_if (st_cp (cr_eq hR) (se_item hB.K (se_var hB rfl (.inl rfl)) se_int (fun _ _ => rfl)) (se_var hB rfl (.inl rfl)) rfl) (ss_one (s_set hB rfl hF (.inl rfl) (se_tup (sa_cons (se_str rfl (by decide)) (sa_cons se_int (sa_cons se_int (sa_cons (se_str rfl (by decide)) (sa_cons (se_var hB rfl (.inl rfl)) sa_nil)))))))) ss_nil) (ss_one (s_expr (se_append hB rfl (.inl rfl) (se_var hB rfl (.inl rfl)))))))) (ss_one (s_ret (se_tup (sa_cons (se_var hB rfl (.inl rfl)) (sa_cons (se_tuple hB rfl (fr4 C) (se_var hB rfl (.inl rfl))) sa_nil)))))))
theorem b27 {cn : Cn} {wx : WX} {XP : Cx → Prop} {P : Program} {w : World} {mg : Str → Option Value} {base : Heap} {k : Nat} {S S' : Nat → FSem} (ok : (Cxt.mk cn wx XP P w mg base D27.N D27.d.scope k).Ok) (C : Calls tb (Cxt.mk cn wx XP P w mg base D27.N D27.d.scope k) S S') : SSs (Cxt.mk cn wx XP P w mg base D27.N D27.d.scope k) D27.d.body (c_law_times S S') :=
  have hB := ok.B
  have hR := ok.R
  have hF := ok.F
  have hL := ok.L
  (ss_cons (s_set hB rfl hF (.inl rfl) (se_call hB hR (gl21 C) rfl (sa_cons (se_var hB rfl (.inl rfl)) (sa_cons se_int sa_nil)))) (ss_cons (s_set hB rfl hF (.inl rfl) (se_item hB.K (se_of_sl (sl_lst (sa_cons se_non (sa_cons (se_add hB (se_var hB rfl (.inl rfl)) se_int) (sa_cons (se_add hB (se_var hB rfl (.inl rfl)) se_int) (sa_cons (se_max2 hB hR rfl (fr7 C) (se_var hB rfl (.inl rfl)) se_int) sa_nil)))))) (se_call hB hR (gl21 C) rfl (sa_cons (se_var hB rfl (.inl rfl)) (sa_cons se_int sa_nil))) (fun _ _ => rfl))) (ss_cons (s_set hB rfl hF (.inl rfl) (se_item hB.K (se_of_sl (sl_lst (sa_cons (se_str rfl (by decide)) (sa_cons (se_str rfl (by decide)) (sa_cons (se_str rfl (by decide)) sa_nil))))) (se_call hB hR (gl21 C) rfl (sa_cons (se_var hB rfl (.inl rfl)) (sa_cons se_int sa_nil))) (fun _ _ => rfl))) (ss_cons (s_if (st_of_pw (spw_and (st_cp (cr_eq hR) (se_var hB rfl (.inl rfl)) (se_str rfl (by decide)) rfl) (spw_and1 (st_cp (cr_eq hR) (se_item hB.K (se_var hB rfl (.inl rfl)) se_int (fun _ _ => rfl)) se_int rfl)))) (ss_one (s_set hB rfl hF (.inl rfl) (se_str rfl (by decide)))) ss_nil) (ss_one (s_ret (se_tup (sa_cons (se_str rfl (by decide)) (sa_cons (se_var hB rfl (.inl rfl)) (sa_cons (se_var hB rfl (.inl rfl)) (sa_cons (se_var hB rfl (.inl rfl)) (sa_cons (se_call hB hR (gl28 C) rfl (sa_cons (se_var hB rfl (.inl rfl)) (sa_cons (se_var hB rfl (.inl rfl)) (sa_cons (se_var hB rfl (.inl rfl)) (sa_cons (se_sub (se_var hB rfl (.inl rfl)) se_int) sa_nil))))) sa_nil))))))))))))
theorem b28 {cn : Cn} {wx : WX} {XP : Cx → Prop} {P : Program} {w : World} {mg : Str → Option Value} {base : Heap} {k : Nat} {S S' : Nat → FSem} (ok : (Cxt.mk cn wx XP P w mg base D28.N D28.d.scope k).Ok) (C : Calls tb (Cxt.mk cn wx XP P w mg base D28.N D28.d.scope k) S S') : SSs (Cxt.mk cn wx XP P w mg base D28.N D28.d.scope k) D28.d.body (c_law_pattern S S') :=
  have hB := ok.B
  have hR := ok.R
  have hF := ok.F
  have hL := ok.L
  (ss_cons (s_set hB rfl hF (.inl rfl) (se_call hB hR (gl21 C) rfl (sa_cons (se_var hB rfl (.inl rfl)) (sa_cons se_int sa_nil)))) (ss_cons (s_if (st_of_pw (spw_or (st_cp (cr_eq hR) (se_var hB rfl (.inl rfl)) se_int rfl) (spw_or1 (st_cp cr_lt (se_var hB rfl (.inl rfl)) se_int rfl)))) (ss_one (s_ret (se_call hB hR (gl25 C) rfl (sa_cons (se_var hB rfl (.inl rfl)) (sa_cons (se_var hB rfl (.inl rfl)) (sa_cons (se_var hB rfl (.inl rfl)) sa_nil)))))) ss_nil) (ss_cons (s_if (st_of_pw (spw_and (st_cp (cr_eq hR) (se_var hB rfl (.inl rfl)) se_int rfl) (spw_and1 (st_cp (cr_eq hR) (se_call hB hR (gl21 C) rfl (sa_cons (se_var hB rfl (.inl rfl)) (sa_cons se_int sa_nil))) se_int rfl)))) (ss_one (s_ret (se_tup (sa_cons (se_str rfl (by decide)) (sa_cons (se_tup sa_nil) sa_nil))))) ss_nil) (ss_cons (s_if (st_cp cr_lt (se_var hB rfl (.inl rfl)) se_int rfl) (ss_one (s_ret (se_call hB hR (gl26 C) rfl (sa_cons (se_var hB rfl (.inl rfl)) (sa_cons (se_var hB rfl (.inl rfl)) (sa_cons (se_var hB rfl (.inl rfl)) (sa_cons (se_var hB rfl (.inl rfl)) (sa_cons (se_item hB.K (se_of_sl (sl_lst (sa_cons (se_str rfl (by decide)) (sa_cons (se_str rfl (by decide)) sa_nil)))) (se_div (se_var hB rfl (.inl rfl)) se_int) (fun _ _ => rfl)) sa_nil)))))))) ss_nil) (ss_cons (s_if (st_cp cr_lt (se_var hB rfl (.inl rfl)) se_int rfl) (ss_one (s_ret (se_call hB hR (gl27 C) rfl (sa_cons (se_var hB rfl (.inl rfl)) (sa_cons (se_var hB rfl (.inl rfl)) (sa_cons (se_var hB rfl (.inl rfl)) (sa_cons (se_var hB rfl (.inl rfl)) sa_nil))))))) ss_nil) (ss_cons (s_if (st_of_pw (spw_or (st_cp (cr_eq hR) (se_var hB rfl (.inl rfl)) se_int rfl) (spw_or1 (st_cp (cr_eq hR) (se_item hB.K (se_var hB rfl (.inl rfl)) se_int (fun _ _ => rfl)) se_int rfl)))) (ss_cons (s_if (st_cp (cr_eq hR) (se_item hB.K (se_var hB rfl (.inl rfl)) se_int (fun _ _ => rfl)) se_int rfl) (ss_one (s_ret (se_tup (sa_cons (se_str rfl (by decide)) sa_nil)))) ss_nil) (ss_cons (s_item hB rfl (.inl rfl) se_int (se_add hB (se_item hB.K (se_var hB rfl (.inl rfl)) se_int (fun _ _ => rfl)) se_int)) (ss_cons (s_set hB rfl hF (.inl rfl) (se_item hB.K (se_var hB rfl (.inl rfl)) se_int (fun _ _ => rfl))) (ss_one (s_ret (se_tup (sa_cons (se_str rfl (by decide)) (sa_cons (se_var hB rfl (.inl rfl)) (sa_cons (se_call hB hR (gl28 C) rfl (sa_cons (se_var hB rfl (.inl rfl)) (sa_cons (se_var hB rfl (.inl rfl)) (sa_cons (se_var hB rfl (.inl rfl)) (sa_cons (se_sub (se_var hB rfl (.inl rfl)) se_int) sa_nil))))) sa_nil))))))))) ss_nil) (ss_cons (s_if (st_of_pw (spw_and (st_cp (cr_eq hR) (se_var hB rfl (.inl rfl)) se_int rfl) (spw_and1 (st_cp cr_gt (se_item hB.K (se_var hB rfl (.inl rfl)) se_int (fun _ _ => rfl)) se_int rfl)))) (ss_cons (s_set hB rfl hF (.inl rfl) (se_add hB se_int (se_call hB hR (gl21 C) rfl (sa_cons (se_var hB rfl (.inl rfl)) (sa_cons (se_item hB.K (se_var hB rfl (.inl rfl)) se_int (fun _ _ => rfl)) sa_nil))))) (ss_cons (s_set hB rfl hF (.inl rfl) (se_call hB hR (gl28 C) rfl (sa_cons (se_var hB rfl (.inl rfl)) (sa_cons (se_var hB rfl (.inl rfl)) (sa_cons (se_var hB rfl (.inl rfl)) (sa_cons (se_sub (se_var hB rfl (.inl rfl)) se_int) sa_nil)))))) (ss_one (s_ret (se_tup (sa_cons (se_str rfl (by decide)) (sa_cons (se_var hB rfl (.inl rfl)) (sa_cons (se_var hB rfl (.inl rfl)) (sa_cons (se_call hB hR (gl28 C) rfl (sa_cons (se_var hB rfl (.inl rfl)) (sa_cons (se_var hB rfl (.inl rfl)) (sa_cons (se_var hB rfl (.inl rfl)) (sa_cons (se_sub (se_var hB rfl (.inl rfl)) se_int) sa_nil))))) sa_nil))))))))) ss_nil) (ss_cons (s_set hB rfl hF (.inl rfl) (se_item hB.K (se_of_sl (sl_lst (sa_cons (se_str rfl (by decide)) (sa_cons (se_str rfl (by decide)) (sa_cons (se_str rfl (by decide)) (sa_cons (se_str rfl (by decide)) (sa_cons (se_str rfl (by decide)) sa_nil))))))) (se_call hB hR (gl21 C) rfl (sa_cons (se_var hB rfl (.inl rfl)) (sa_cons se_int sa_nil))) (fun _ _ => rfl))) (ss_one (s_ret (se_tup (sa_cons (se_var hB rfl (.inl rfl)) (sa_cons (se_call hB hR (gl28 C) rfl (sa_cons (se_var hB rfl (.inl rfl)) (sa_cons (se_var hB rfl (.inl rfl)) (sa_cons (se_var hB rfl (.inl rfl)) (sa_cons (se_sub (se_var hB rfl (.inl rfl)) se_int) sa_nil))))) sa_nil)))))))))))))
theorem b29 {cn : Cn} {wx : WX} {XP : Cx → Prop} {P : Program} {w : World} {mg : Str → Option Value} {base : Heap} {k : Nat} {S S' : Nat → FSem} (ok : (Cxt.mk cn wx XP P w mg base D29.N D29.d.scope k).Ok) (C : Calls tb (Cxt.mk cn wx XP P w mg base D29.N D29.d.scope k) S S') : SSs (Cxt.mk cn wx XP P w mg base D29.N D29.d.scope k) D29.d.body (c_law_drawn S S') :=
  have hB := ok.B
  have hR := ok.R
  have hF := ok.F
  have hL := ok.L
  (ss_cons (s_own hB rfl hF (.inl rfl) (sl_lst (sa_cons se_int (sa_cons (se_var hB rfl (.inl rfl)) sa_nil)))) (ss_cons (s_set hB rfl hF (.inl rfl) (se_call hB hR (gl28 C) rfl (sa_cons (se_var hB rfl (.inl rfl)) (sa_cons (se_var hB rfl (.inl rfl)) (sa_cons (se_var hB rfl (.inl rfl)) (sa_cons se_int sa_nil)))))) (ss_cons (s_if (st_of_pw (spw_and (st_cp (cr_eq hR) (se_call hB hR (gl21 C) rfl (sa_cons (se_var hB rfl (.inl rfl)) (sa_cons se_int sa_nil))) se_int rfl) (spw_and1 (st_cp (cr_eq hR) (se_var hB rfl (.inl rfl)) se_int rfl)))) (ss_cons (s_set hB rfl hF (.inl rfl) (se_tup (sa_cons (se_str rfl (by decide)) (sa_cons (se_tup (sa_cons (se_tup (sa_cons (se_str rfl (by decide)) (sa_cons se_int sa_nil))) (sa_cons (se_tup (sa_cons (se_str rfl (by decide)) (sa_cons (se_item hB.K (se_var hB rfl (.inl rfl)) (se_call hB hR (gl21 C) rfl (sa_cons (se_var hB rfl (.inl rfl)) (sa_cons se_int sa_nil))) (fun _ _ => rfl)) sa_nil))) sa_nil))) sa_nil)))) (ss_cons (s_set hB rfl hF (.inl rfl) (se_tup (sa_cons (se_str rfl (by decide)) (sa_cons se_int (sa_cons (se_tup (sa_cons (se_str rfl (by decide)) (sa_cons (se_call hB hR (gl24 C) rfl (sa_cons (se_var hB rfl (.inl rfl)) (sa_cons (se_var hB rfl (.inl rfl)) sa_nil))) sa_nil))) sa_nil))))) (ss_cons (s_set hB rfl hF (.inl rfl) (se_tup (sa_cons (se_str rfl (by decide)) (sa_cons se_int (sa_cons se_non (sa_cons (se_item hB.K (se_of_sl (sl_lst (sa_cons (se_str rfl (by decide)) (sa_cons (se_str rfl (by decide)) sa_nil)))) (se_call hB hR (gl21 C) rfl (sa_cons (se_var hB rfl (.inl rfl)) (sa_cons se_int sa_nil))) (fun _ _ => rfl)) (sa_cons (se_tup (sa_cons (se_str rfl (by decide)) (sa_cons (se_tup (sa_cons (se_var hB rfl (.inl rfl)) (sa_cons (se_var hB rfl (.inl rfl)) sa_nil))) sa_nil))) sa_nil))))))) (ss_one (s_item hB rfl (.inl rfl) se_int se_int))))) ss_nil) (ss_one (s_ret (se_tup (sa_cons (se_var hB rfl (.inl rfl)) (sa_cons (se_tuple hB rfl (fr4 C) (se_of_sl (sl_comp hB hR rfl (by rfl) rfl (si_rng hB rfl (fr6 C) (se_item hB.K (se_var hB rfl (.inl rfl)) se_int (fun _ _ => rfl))) sf_nil se_non))) sa_nil))))))))
theorem b30 {cn : Cn} {wx : WX} {XP : Cx → Prop} {P : Program} {w : World} {mg : Str → Option Value} {base : Heap} {k : Nat} {S S' : Nat → FSem} (ok : (Cxt.mk cn wx XP P w mg base D30.N D30.d.scope k).Ok) (C : Calls tb (Cxt.mk cn wx XP P w mg base D30.N D30.d.scope k) S S') : SSs (Cxt.mk cn wx XP P w mg base D30.N D30.d.scope k) D30.d.body (c_law_nested S S') :=
  have hB := ok.B
  have hR := ok.R
  have hF := ok.F
  have hL := ok.L
  (ss_cons (s_set hB rfl hF (.inl rfl) (se_tup (sa_cons (se_str rfl (by decide)) (sa_cons (se_item hB.K (se_var hB rfl (.inl rfl)) se_int (fun _ _ => rfl)) sa_nil)))) (ss_cons (s_for hB hR hL hF rfl (.inl rfl) (si_rng hB rfl (fr6 C) (se_sub (se_var hB rfl (.inl rfl)) se_int)) (ss_cons (s_set hB rfl hF (.inl rfl) (se_call hB hR (gl21 C) rfl (sa_cons (se_var hB rfl (.inl rfl)) (sa_cons se_int sa_nil)))) (ss_cons (s_if (st_cp (cr_eq hR) (se_var hB rfl (.inl rfl)) se_int rfl) (ss_one (s_set hB rfl hF (.inl rfl) (se_tup (sa_cons (se_str rfl (by decide)) (sa_cons (se_var hB rfl (.inl rfl)) sa_nil))))) ss_nil) (ss_cons (s_if (st_cp (cr_eq hR) (se_var hB rfl (.inl rfl)) se_int rfl) (ss_one (s_set hB rfl hF (.inl rfl) (se_tup (sa_cons (se_str rfl (by decide)) (sa_cons (se_call hB hR (gl21 C) rfl (sa_cons (se_var hB rfl (.inl rfl)) (sa_cons se_int sa_nil))) (sa_cons se_non (sa_cons (se_str rfl (by decide)) (sa_cons (se_var hB rfl (.inl rfl)) sa_nil)))))))) ss_nil) (ss_cons (s_if (st_cp (cr_eq hR) (se_var hB rfl (.inl rfl)) se_int rfl) (ss_one (s_set hB rfl hF (.inl rfl) (se_tup (sa_cons (se_str rfl (by decide)) (sa_cons se_int (sa_cons (se_add hB se_int (se_call hB hR (gl21 C) rfl (sa_cons (se_var hB rfl (.inl rfl)) (sa_cons se_int sa_nil)))) (sa_cons (se_str rfl (by decide)) (sa_cons (se_var hB rfl (.inl rfl)) sa_nil)))))))) ss_nil) (ss_one (s_if (st_cp (cr_eq hR) (se_var hB rfl (.inl rfl)) se_int rfl) (ss_one (s_set hB rfl hF (.inl rfl) (se_tup (sa_cons (se_str rfl (by decide)) (sa_cons (se_var hB rfl (.inl rfl)) sa_nil))))) ss_nil))))))) (ss_one (s_ret (se_var hB rfl (.inl rfl))))))
theorem b31 {cn : Cn} {wx : WX} {XP : Cx → Prop} {P : Program} {w : World} {mg : Str → Option Value} {base : Heap} {k : Nat} {S S' : Nat → FSem} (ok : (Cxt.mk cn wx XP P w mg base D31.N D31.d.scope k).Ok) (C : Calls tb (Cxt.mk cn wx XP P w mg base D31.N D31.d.scope k) S S') : SSs (Cxt.mk cn wx XP P w mg base D31.N D31.d.scope k) D31.d.body (c_law_wide S S') :=
  have hB := ok.B
  have hR := ok.R
  have hF := ok.F
  have hL := ok.L
  (ss_cons (s_own hB rfl hF (.inl rfl) (sl_lst sa_nil)) (ss_cons (s_for hB hR hL hF rfl (.inl rfl) (si_rng hB rfl (fr6 C) (se_var hB rfl (.inl rfl))) (ss_cons (s_own hB rfl hF (.inl rfl) (sl_lst sa_nil)) (ss_cons (s_for hB hR hL hF rfl (.inl rfl) (si_rng hB rfl (fr6 C) (se_var hB rfl (.inl rfl))) (ss_one (s_expr (se_append hB rfl (.inl rfl) (se_tup (sa_cons (se_str rfl (by decide)) (sa_cons (se_item hB.K (se_var hB rfl (.inl rfl)) (se_call hB hR (gl21 C) rfl (sa_cons (se_var hB rfl (.inl rfl)) (sa_cons se_int sa_nil))) (fun _ _ => rfl)) sa_nil))))))) (ss_one (s_expr (se_append hB rfl (.inl rfl) (se_tup (sa_cons (se_str rfl (by decide)) (sa_cons (se_tuple hB rfl (fr4 C) (se_var hB rfl (.inl rfl))) sa_nil))))))))) (ss_one (s_ret (se_tup (sa_cons (se_str rfl (by decide)) (sa_cons (se_tuple hB rfl (fr4 C) (se_var hB rfl (.inl rfl))) sa_nil)))))))
theorem b32 {cn : Cn} {wx : WX} {XP : Cx → Prop} {P : Program} {w : World} {mg : Str → Option Value} {base : Heap} {k : Nat} {S S' : Nat → FSem} (ok : (Cxt.mk cn wx XP P w mg base D32.N D32.d.scope k).Ok) (C : Calls tb (Cxt.mk cn wx XP P w mg base D32.N D32.d.scope k) S S') : SSs (Cxt.mk cn wx XP P w mg base D32.N D32.d.scope k) D32.d.body (c_law_many_groups S S') :=
  have hB := ok.B
  have hR := ok.R
  have hF := ok.F
  have hL := ok.L
  (ss_cons (s_set hB rfl hF (.inl rfl) (se_tup (sa_cons (se_str rfl (by decide)) (sa_cons (se_var hB rfl (.inl rfl)) sa_nil)))) (ss_cons (s_ownComp hB hR rfl rfl rfl (by rfl) rfl (fun X hx => sw_true (by rw [(hB X hx).sc]; rfl) (by rw [(hB X hx).sc]; rfl) rfl rfl) (si_rng hB rfl (fr6 C) (se_var hB rfl (.inl rfl))) sf_nil (se_tup (sa_cons (se_str rfl (by decide)) (sa_cons (se_add hB.blk (se_var hB.blk rfl (.inl rfl)) se_int) (sa_cons (se_tup (sa_cons (se_str rfl (by decide)) (sa_cons (se_item hB.blk.K (se_var hB.blk rfl (.inr (.inl rfl))) (se_mod (se_var hB.blk rfl (.inl rfl)) se_int) (fun _ _ => rfl)) sa_nil))) sa_nil))))) (ss_cons (s_if (st_cp cr_lt (se_var hB rfl (.inl rfl)) se_int rfl) (ss_one (s_ret (se_tup (sa_cons (se_str rfl (by decide)) (sa_cons (se_tuple hB rfl (fr4 C) (se_add hB (se_var hB rfl (.inl rfl)) (se_of_sl (sl_lst (sa_cons (se_var hB rfl (.inl rfl)) sa_nil))))) sa_nil))))) ss_nil) (ss_one (s_ret (se_tup (sa_cons (se_str rfl (by decide)) (sa_cons (se_tuple hB rfl (fr4 C) (se_add hB (se_slice hB.K (se_var hB rfl (.inl rfl)) sp_none (sp_some se_int)) (se_of_sl (sl_lst (sa_cons (se_tup (sa_cons (se_str rfl (by decide)) (sa_cons se_int (sa_cons (se_tup (sa_cons (se_str rfl (by decide)) (sa_cons (se_tuple hB rfl (fr4 C) (se_add hB (se_slice hB.K (se_var hB rfl (.inl rfl)) (sp_some se_int) sp_none) (se_of_sl (sl_lst (sa_cons (se_var hB rfl (.inl rfl)) sa_nil))))) sa_nil))) sa_nil)))) sa_nil))))) sa_nil))))))))
theorem b33 {cn : Cn} {wx : WX} {XP : Cx → Prop} {P : Program} {w : World} {mg : Str → Option Value} {base : Heap} {k : Nat} {S S' : Nat → FSem} (ok : (Cxt.mk cn wx XP P w mg base D33.N D33.d.scope k).Ok) (C : Calls tb (Cxt.mk cn wx XP P w mg base D33.N D33.d.scope k) S S') : SSs (Cxt.mk cn wx XP P w mg base D33.N D33.d.scope k) D33.d.body (c_law_signed S S') :=
  have hB := ok.B
  have hR := ok.R
  have hF := ok.F
  have hL := ok.L
  (ss_cons (s_if (st_cp (cr_in hB) (se_var hB rfl (.inl rfl)) (se_var hB rfl (.inl rfl)) rfl) (ss_one (s_ret (se_add hB (se_str rfl (by decide)) (se_var hB rfl (.inl rfl))))) ss_nil) (ss_one (s_ret (se_var hB rfl (.inl rfl)))))
theorem b34 {cn : Cn} {wx : WX} {XP : Cx → Prop} {P : Program} {w : World} {mg : Str → Option Value} {base : Heap} {k : Nat} {S S' : Nat → FSem} (ok : (Cxt.mk cn wx XP P w mg base D34.N D34.d.scope k).Ok) (C : Calls tb (Cxt.mk cn wx XP P w mg base D34.N D34.d.scope k) S S') : SSs (Cxt.mk cn wx XP P w mg base D34.N D34.d.scope k) D34.d.body (c_law_run_text S S') :=
  have hB := ok.B
  have hR := ok.R
  have hF := ok.F
  have hL := ok.L
  (ss_cons (s_set hB rfl hF (.inl rfl) (se_call hB hR (gl33 C) rfl (sa_cons (se_item hB.K (se_var hB rfl (.inl rfl)) se_int (fun _ _ => rfl)) (sa_cons (se_str rfl (by decide)) sa_nil)))) (ss_cons (s_if (st_cp (cr_eq hR) (se_item hB.K (se_var hB rfl (.inl rfl)) se_int (fun _ _ => rfl)) (se_item hB.K (se_var hB rfl (.inl rfl)) se_int (fun _ _ => rfl)) rfl) (ss_one (s_ret (se_var hB rfl (.inl rfl)))) ss_nil) (ss_one (s_ret (se_add hB (se_add hB (se_var hB rfl (.inl rfl)) (se_str rfl (by decide))) (se_call hB hR (gl33 C) rfl (sa_cons (se_item hB.K (se_var hB rfl (.inl rfl)) se_int (fun _ _ => rfl)) (sa_cons (se_str rfl (by decide)) sa_nil))))))))
theorem b35 {cn : Cn} {wx : WX} {XP : Cx → Prop} {P : Program} {w : World} {mg : Str → Option Value} {base : Heap} {k : Nat} {S S' : Nat → FSem} (ok : (Cxt.mk cn wx XP P w mg base D35.N D35.d.scope k).Ok) (C : Calls tb (Cxt.mk cn wx XP P w mg base D35.N D35.d.scope k) S S') : SSs (Cxt.mk cn wx XP P w mg base D35.N D35.d.scope k) D35.d.body (c_law_inner S S') :=
  have hB := ok.B
  have hR := ok.R
  have hF := ok.F
  have hL := ok.L
  (ss_cons (s_if (st_cp (cr_in hB) (se_item hB.K (se_var hB rfl (.inl rfl)) se_int (fun _ _ => rfl)) (se_var hB rfl (.inl rfl)) rfl) (ss_one (s_ret (se_add hB (se_add hB (se_str rfl (by decide)) (se_call hB hR (gl37 C) rfl (sa_cons (se_var hB rfl (.inl rfl)) sa_nil))) (se_str rfl (by decide))))) ss_nil) (ss_one (s_ret (se_call hB hR (gl37 C) rfl (sa_cons (se_var hB rfl (.inl rfl)) sa_nil)))))
theorem b36 {cn : Cn} {wx : WX} {XP : Cx → Prop} {P : Program} {w : World} {mg : Str → Option Value} {base : Heap} {k : Nat} {S S' : Nat → FSem} (ok : (Cxt.mk cn wx XP P w mg base D36.N D36.d.scope k).Ok) (C : Calls tb (Cxt.mk cn wx XP P w mg base D36.N D36.d.scope k) S S') : SSs (Cxt.mk cn wx XP P w mg base D36.N D36.d.scope k) D36.d.body (c_law_leaf_text S S') :=
  have hB := ok.B
  have hR := ok.R
  have hF := ok.F
  have hL := ok.L
  (ss_cons (s_if (st_cp (cr_eq hR) (se_item hB.K (se_var hB rfl (.inl rfl)) se_int (fun _ _ => rfl)) (se_str rfl (by decide)) rfl) (ss_one (s_ret (se_call hB hR (gl33 C) rfl (sa_cons (se_item hB.K (se_var hB rfl (.inl rfl)) se_int (fun _ _ => rfl)) (sa_cons (se_str rfl (by decide)) sa_nil))))) ss_nil) (ss_cons (s_if (st_cp (cr_in hB) (se_item hB.K (se_var hB rfl (.inl rfl)) se_int (fun _ _ => rfl)) (se_tup (sa_cons (se_str rfl (by decide)) (sa_cons (se_str rfl (by decide)) sa_nil))) rfl) (ss_one (s_ret (se_add hB (se_add hB (se_item hB.K (se_of_sl (sl_lst (sa_cons (se_str rfl (by decide)) (sa_cons (se_str rfl (by decide)) sa_nil)))) (se_int1 hB rfl (fr1 C) (se_cp (cr_eq hR) (se_item hB.K (se_var hB rfl (.inl rfl)) se_int (fun _ _ => rfl)) (se_str rfl (by decide)) rfl)) (fun _ _ => rfl)) (se_join hB rfl (se_of_sl (sl_comp hB hR rfl (by rfl) rfl (si_val hB (se_item hB.K (se_var hB rfl (.inl rfl)) se_int (fun _ _ => rfl))) sf_nil (se_call hB.blk hR.blk (gl34 C.blk) rfl (sa_cons (se_var hB.blk rfl (.inl rfl)) sa_nil)))))) (se_str rfl (by decide))))) ss_nil) (ss_cons (s_if (st_cp (cr_eq hR) (se_item hB.K (se_var hB rfl (.inl rfl)) se_int (fun _ _ => rfl)) (se_str rfl (by decide)) rfl) (ss_one (s_ret (se_add hB (se_str rfl (by decide)) (se_str1 hB rfl (fr2 C) (se_item hB.K (se_var hB rfl (.inl rfl)) se_int (fun _ _ => rfl)))))) ss_nil) (ss_one (s_ret (se_itemD hR (se_dic (sd_cons (kt := [97, 110, 121]) (vt := [46]) rfl rfl (sd_cons (kt := [98, 101, 103, 105, 110]) (vt := [94]) rfl rfl (sd_cons (kt := [101, 110, 100]) (vt := [36]) rfl rfl sd_nil)))) (se_item hB.K (se_var hB rfl (.inl rfl)) se_int (fun _ _ => rfl)) (fun _ _ => rfl)))))))
theorem b37 {cn : Cn} {wx : WX} {XP : Cx → Prop} {P : Program} {w : World} {mg : Str → Option Value} {base : Heap} {k : Nat} {S S' : Nat → FSem} (ok : (Cxt.mk cn wx XP P w mg base D37.N D37.d.scope k).Ok) (C : Calls tb (Cxt.mk cn wx XP P w mg base D37.N D37.d.scope k) S S') : SSs (Cxt.mk cn wx XP P w mg base D37.N D37.d.scope k) D37.d.body (c_law_written S S') :=
  have hB := ok.B
  have hR := ok.R
  have hF := ok.F
  have hL := ok.L
  (ss_cons (s_set hB rfl hF (.inl rfl) (se_item hB.K (se_var hB rfl (.inl rfl)) se_int (fun _ _ => rfl))) (ss_cons (s_if (st_cp (cr_eq hR) (se_var hB rfl (.inl rfl)) (se_str rfl (by decide)) rfl) (ss_one (s_ret (se_join hB rfl (se_of_sl (sl_comp hB hR rfl (by rfl) rfl (si_val hB (se_item hB.K (se_var hB rfl (.inl rfl)) se_int (fun _ _ => rfl))) sf_nil (se_call hB.blk hR.blk (gl35 C.blk) rfl (sa_cons (se_var hB.blk rfl (.inl rfl)) (sa_cons (se_tup (sa_cons (se_str rfl (by decide)) sa_nil)) sa_nil)))))))) ss_nil) (ss_cons (s_if (st_cp (cr_eq hR) (se_var hB rfl (.inl rfl)) (se_str rfl (by decide)) rfl) (ss_one (s_ret (se_join hB rfl (se_of_sl (sl_comp hB hR rfl (by rfl) rfl (si_val hB (se_item hB.K (se_var hB rfl (.inl rfl)) se_int (fun _ _ => rfl))) sf_nil (se_call hB.blk hR.blk (gl37 C.blk) rfl (sa_cons (se_var hB.blk rfl (.inl rfl)) sa_nil))))))) ss_nil) (ss_cons (s_if (st_cp (cr_eq hR) (se_var hB rfl (.inl rfl)) (se_str rfl (by decide)) rfl) (ss_cons (s_set hB rfl hF (.inl rfl) (se_str rfl (by decide))) (ss_cons (s_if (st_notN (se_item hB.K (se_var hB rfl (.inl rfl)) se_int (fun _ _ => rfl))) (ss_one (s_set hB rfl hF (.inl rfl) (se_str1 hB rfl (fr2 C) (se_item hB.K (se_var hB rfl (.inl rfl)) se_int (fun _ _ => rfl))))) ss_nil) (ss_cons (s_set hB rfl hF (.inl rfl) (se_add hB (se_var hB rfl (.inl rfl)) (se_itemD hR (se_dic (sd_cons (kt := [109, 117, 99, 104]) (vt := [125]) rfl rfl (sd_cons (kt := [108, 105, 116, 116, 108, 101]) (vt := [63, 125]) rfl rfl (sd_cons (kt := [107, 101, 101, 112]) (vt := [33, 125]) rfl rfl sd_nil)))) (se_item hB.K (se_var hB rfl (.inl rfl)) se_int (fun _ _ => rfl)) (fun _ _ => rfl)))) (ss_one (s_ret (se_add hB (se_add hB (se_add hB (se_add hB (se_call hB hR (gl35 C) rfl (sa_cons (se_item hB.K (se_var hB rfl (.inl rfl)) se_int (fun _ _ => rfl)) (sa_cons (se_tup (sa_cons (se_str rfl (by decide)) (sa_cons (se_str rfl (by decide)) (sa_cons (se_str rfl (by decide)) sa_nil)))) sa_nil))) (se_str rfl (by decide))) (se_str1 hB rfl (fr2 C) (se_item hB.K (se_var hB rfl (.inl rfl)) se_int (fun _ _ => rfl)))) (se_str rfl (by decide))) (se_var hB rfl (.inl rfl)))))))) ss_nil) (ss_cons (s_if (st_cp (cr_eq hR) (se_var hB rfl (.inl rfl)) (se_str rfl (by decide)) rfl) (ss_one (s_ret (se_add hB (se_add hB (se_str rfl (by decide)) (se_call hB hR (gl37 C) rfl (sa_cons (se_item hB.K (se_var hB rfl (.inl rfl)) se_int (fun _ _ => rfl)) sa_nil))) (se_str rfl (by decide))))) ss_nil) (ss_cons (s_if (st_cp (cr_eq hR) (se_var hB rfl (.inl rfl)) (se_str rfl (by decide)) rfl) (ss_one (s_ret (se_add hB (se_add hB (se_add hB (se_add hB (se_add hB (se_str rfl (by decide)) (se_str1 hB rfl (fr2 C) (se_item hB.K (se_var hB rfl (.inl rfl)) se_int (fun _ _ => rfl)))) (se_call hB hR (gl37 C) rfl (sa_cons (se_item hB.K (se_var hB rfl (.inl rfl)) se_int (fun _ _ => rfl)) sa_nil))) (se_str rfl (by decide))) (se_call hB hR (gl37 C) rfl (sa_cons (se_item hB.K (se_var hB rfl (.inl rfl)) se_int (fun _ _ => rfl)) sa_nil))) (se_str rfl (by decide))))) ss_nil) (ss_cons (s_set hB rfl hF (.inl rfl) (se_dic (sd_cons (kt := [111, 110, 99, 101]) (vt := [60, 33]) rfl rfl (sd_cons (kt := [97, 104, 101, 97, 100]) (vt := [60, 43]) rfl rfl (sd_cons (kt := [110, 111, 116, 97, 104, 101, 97, 100]) (vt := [60, 45]) rfl rfl (sd_cons (kt := [98, 101, 104, 105, 110, 100]) (vt := [60, 42]) rfl rfl (sd_cons (kt := [110, 111, 116, 98, 101, 104, 105, 110, 100]) (vt := [60, 47]) rfl rfl sd_nil))))))) (ss_cons (s_if (st_inD hR (se_var hB rfl (.inl rfl)) (se_var hB rfl (.inl rfl)) rfl) (ss_one (s_ret (se_add hB (se_add hB (se_itemD hR (se_var hB rfl (.inl rfl)) (se_var hB rfl (.inl rfl)) (fun _ _ => rfl)) (se_call hB hR (gl37 C) rfl (sa_cons (se_item hB.K (se_var hB rfl (.inl rfl)) se_int (fun _ _ => rfl)) sa_nil))) (se_str rfl (by decide))))) ss_nil) (ss_one (s_ret (se_call hB hR (gl36 C) rfl (sa_cons (se_var hB rfl (.inl rfl)) sa_nil))))))))))))
theorem b38 {cn : Cn} {wx : WX} {XP : Cx → Prop} {P : Program} {w : World} {mg : Str → Option Value} {base : Heap} {k : Nat} {S S' : Nat → FSem} (ok : (Cxt.mk cn wx XP P w mg base D38.N D38.d.scope k).Ok) (C : Calls tb (Cxt.mk cn wx XP P w mg base D38.N D38.d.scope k) S S') : SSs (Cxt.mk cn wx XP P w mg base D38.N D38.d.scope k) D38.d.body (c_law_parts_of S S') :=
  have hB := ok.B
  have hR := ok.R
  have hF := ok.F
  have hL := ok.L
  (ss_cons (s_set hB rfl hF (.inl rfl) (se_item hB.K (se_var hB rfl (.inl rfl)) se_int (fun _ _ => rfl))) (ss_cons (s_if (st_of_pw (spw_or (st_cp (cr_eq hR) (se_var hB rfl (.inl rfl)) (se_str rfl (by decide)) rfl) (spw_or1 (st_cp (cr_eq hR) (se_var hB rfl (.inl rfl)) (se_str rfl (by decide)) rfl)))) (ss_one (s_retL (sl_list hB rfl (fr0 C) (se_item hB.K (se_var hB rfl (.inl rfl)) se_int (fun _ _ => rfl))))) ss_nil) (ss_cons (s_if (st_cp (cr_eq hR) (se_var hB rfl (.inl rfl)) (se_str rfl (by decide)) rfl) (ss_one (s_retL (sl_lst (sa_cons (se_item hB.K (se_var hB rfl (.inl rfl)) se_int (fun _ _ => rfl)) sa_nil)))) ss_nil) (ss_cons (s_if (st_cp (cr_eq hR) (se_var hB rfl (.inl rfl)) (se_str rfl (by decide)) rfl) (ss_one (s_retL (sl_lst (sa_cons (se_item hB.K (se_var hB rfl (.inl rfl)) se_int (fun _ _ => rfl)) sa_nil)))) ss_nil) (ss_cons (s_if (st_cp (cr_eq hR) (se_var hB rfl (.inl rfl)) (se_str rfl (by decide)) rfl) (ss_one (s_retL (sl_lst (sa_cons (se_item hB.K (se_var hB rfl (.inl rfl)) se_int (fun _ _ => rfl)) (sa_cons (se_item hB.K (se_var hB rfl (.inl rfl)) se_int (fun _ _ => rfl)) sa_nil))))) ss_nil) (ss_cons (s_if (st_cp (cr_in hB) (se_var hB rfl (.inl rfl)) (se_tup (sa_cons (se_str rfl (by decide)) (sa_cons (se_str rfl (by decide)) (sa_cons (se_str rfl (by decide)) (sa_cons (se_str rfl (by decide)) (sa_cons (se_str rfl (by decide)) sa_nil)))))) rfl) (ss_one (s_retL (sl_lst (sa_cons (se_item hB.K (se_var hB rfl (.inl rfl)) se_int (fun _ _ => rfl)) sa_nil)))) ss_nil) (ss_one (s_retL (sl_lst sa_nil)))))))))
theorem b39 {cn : Cn} {wx : WX} {XP : Cx → Prop} {P : Program} {w : World} {mg : Str → Option Value} {base : Heap} {k : Nat} {S S' : Nat → FSem} (ok : (Cxt.mk cn wx XP P w mg base D39.N D39.d.scope k).Ok) (C : Calls tb (Cxt.mk cn wx XP P w mg base D39.N D39.d.scope k) S S') : SSs (Cxt.mk cn wx XP P w mg base D39.N D39.d.scope k) D39.d.body (c_law_text_like S S') :=
  have hB := ok.B
  have hR := ok.R
  have hF := ok.F
  have hL := ok.L
  (ss_one (s_ret (se_and (se_isTy (t := .str) hB rfl (fr8 C) rfl rfl (fr2 C) (se_var hB rfl (.inl rfl))) (se_one (se_cp (cr_eq hR) (se_len hB rfl (fr3 C) (se_var hB rfl (.inl rfl))) (se_var hB rfl (.inl rfl)) rfl)))))
theorem b40 {cn : Cn} {wx : WX} {XP : Cx → Prop} {P : Program} {w : World} {mg : Str → Option Value} {base : Heap} {k : Nat} {S S' : Nat → FSem} (ok : (Cxt.mk cn wx XP P w mg base D40.N D40.d.scope k).Ok) (C : Calls tb (Cxt.mk cn wx XP P w mg base D40.N D40.d.scope k) S S') : SSs (Cxt.mk cn wx XP P w mg base D40.N D40.d.scope k) D40.d.body (c_law_number S S') :=
  have hB := ok.B
  have hR := ok.R
  have hF := ok.F
  have hL := ok.L
  (ss_one (s_ret (se_and (se_isTy (t := .int) hB rfl (fr8 C) rfl rfl (fr1 C) (se_var hB rfl (.inl rfl))) (se_and (se_not (se_isTy (t := .bool) hB rfl (fr8 C) rfl rfl (fr9 C) (se_var hB rfl (.inl rfl)))) (se_and (se_cp cr_le (se_var hB rfl (.inl rfl)) (se_var hB rfl (.inl rfl)) rfl) (se_one (se_cp cr_le (se_var hB rfl (.inl rfl)) (se_var hB rfl (.inl rfl)) rfl)))))))
theorem b41 {cn : Cn} {wx : WX} {XP : Cx → Prop} {P : Program} {w : World} {mg : Str → Option Value} {base : Heap} {k : Nat} {S S' : Nat → FSem} (ok : (Cxt.mk cn wx XP P w mg base D41.N D41.d.scope k).Ok) (C : Calls tb (Cxt.mk cn wx XP P w mg base D41.N D41.d.scope k) S S') : SSs (Cxt.mk cn wx XP P w mg base D41.N D41.d.scope k) D41.d.body (c_law_good_runs S S') :=
  have hB := ok.B
  have hR := ok.R
  have hF := ok.F
  have hL := ok.L
  (ss_cons (s_if (st_of_pw (spw_or (st_not (st_val (se_isTy (t := .tuple) hB rfl (fr8 C) rfl rfl (fr4 C) (se_var hB rfl (.inl rfl))) (by intros; rfl))) (spw_or (st_cp cr_lt (se_len hB rfl (fr3 C) (se_var hB rfl (.inl rfl))) se_int rfl) (spw_or1 (st_cp cr_gt (se_len hB rfl (fr3 C) (se_var hB rfl (.inl rfl))) se_int rfl))))) (ss_one (s_ret se_bl)) ss_nil) (ss_cons (s_for hB hR hL hF rfl (.inl rfl) (si_val hB (se_var hB rfl (.inl rfl))) (ss_cons (s_if (st_of_pw (spw_or (st_not (st_val (se_isTy (t := .tuple) hB rfl (fr8 C) rfl rfl (fr4 C) (se_var hB rfl (.inl rfl))) (by intros; rfl))) (spw_or1 (st_cp (cr_ne hR) (se_len hB rfl (fr3 C) (se_var hB rfl (.inl rfl))) se_int rfl)))) (ss_one (s_ret se_bl)) ss_nil) (ss_one (s_if (st_of_pw (spw_or (st_not (st_val (se_call hB hR (gl39 C) rfl (sa_cons (se_item hB.K (se_var hB rfl (.inl rfl)) se_int (fun _ _ => rfl)) (sa_cons se_int sa_nil))) (by intros; rfl))) (spw_or (st_not (st_val (se_call hB hR (gl39 C) rfl (sa_cons (se_item hB.K (se_var hB rfl (.inl rfl)) se_int (fun _ _ => rfl)) (sa_cons se_int sa_nil))) (by intros; rfl))) (spw_or1 (st_cp cr_gt (se_ord hB rfl (fr5 C) (se_item hB.K (se_var hB rfl (.inl rfl)) se_int (fun _ _ => rfl))) (se_ord hB rfl (fr5 C) (se_item hB.K (se_var hB rfl (.inl rfl)) se_int (fun _ _ => rfl))) rfl))))) (ss_one (s_ret se_bl)) ss_nil)))) (ss_one (s_ret se_bl))))
theorem b42 {cn : Cn} {wx : WX} {XP : Cx → Prop} {P : Program} {w : World} {mg : Str → Option Value} {base : Heap} {k : Nat} {S S' : Nat → FSem} (ok : (Cxt.mk cn wx XP P w mg base D42.N D42.d.scope k).Ok) (C : Calls tb (Cxt.mk cn wx XP P w mg base D42.N D42.d.scope k) S S') : SSs (Cxt.mk cn wx XP P w mg base D42.N D42.d.scope k) D42.d.body (c_law_good_turns S S') :=
  have hB := ok.B
  have hR := ok.R
  have hF := ok.F
  have hL := ok.L
  (ss_cons (s_if (st_of_pw (spw_or (st_cp (cr_ne hR) (se_len hB rfl (fr3 C) (se_var hB rfl (.inl rfl))) se_int rfl) (spw_or1 (st_not (st_val (se_call hB hR (gl40 C) rfl (sa_cons (se_item hB.K (se_var hB rfl (.inl rfl)) se_int (fun _ _ => rfl)) (sa_cons se_int (sa_cons se_int sa_nil)))) (by intros; rfl)))))) (ss_one (s_ret se_bl)) ss_nil) (ss_cons (s_if (st_of_pw (spw_and (st_notN (se_item hB.K (se_var hB rfl (.inl rfl)) se_int (fun _ _ => rfl))) (spw_and1 (st_not (st_val (se_call hB hR (gl40 C) rfl (sa_cons (se_item hB.K (se_var hB rfl (.inl rfl)) se_int (fun _ _ => rfl)) (sa_cons (se_max2 hB hR rfl (fr7 C) se_int (se_item hB.K (se_var hB rfl (.inl rfl)) se_int (fun _ _ => rfl))) (sa_cons se_int sa_nil)))) (by intros; rfl)))))) (ss_one (s_ret se_bl)) ss_nil) (ss_one (s_ret (se_and (se_isTy (t := .str) hB rfl (fr8 C) rfl rfl (fr2 C) (se_item hB.K (se_var hB rfl (.inl rfl)) se_int (fun _ _ => rfl))) (se_one (se_cp (cr_in hB) (se_item hB.K (se_var hB rfl (.inl rfl)) se_int (fun _ _ => rfl)) (se_tup (sa_cons (se_str rfl (by decide)) (sa_cons (se_str rfl (by decide)) (sa_cons (se_str rfl (by decide)) sa_nil)))) rfl)))))))
theorem b43 {cn : Cn} {wx : WX} {XP : Cx → Prop} {P : Program} {w : World} {mg : Str → Option Value} {base : Heap} {k : Nat} {S S' : Nat → FSem} (ok : (Cxt.mk cn wx XP P w mg base D43.N D43.d.scope k).Ok) (C : Calls tb (Cxt.mk cn wx XP P w mg base D43.N D43.d.scope k) S S') : SSs (Cxt.mk cn wx XP P w mg base D43.N D43.d.scope k) D43.d.body (c_law_good_head S S') :=
  have hB := ok.B
  have hR := ok.R
  have hF := ok.F
  have hL := ok.L
  (ss_cons (s_set hB rfl hF (.inl rfl) (se_item hB.K (se_var hB rfl (.inl rfl)) se_int (fun _ _ => rfl))) (ss_cons (s_if (st_cp (cr_eq hR) (se_var hB rfl (.inl rfl)) (se_str rfl (by decide)) rfl) (ss_one (s_ret (se_and (se_cp (cr_eq hR) (se_len hB rfl (fr3 C) (se_var hB rfl (.inl rfl))) se_int rfl) (se_one (se_call hB hR (gl39 C) rfl (sa_cons (se_item hB.K (se_var hB rfl (.inl rfl)) se_int (fun _ _ => rfl)) (sa_cons se_int sa_nil))))))) ss_nil) (ss_cons (s_if (st_cp (cr_in hB) (se_var hB rfl (.inl rfl)) (se_tup (sa_cons (se_str rfl (by decide)) (sa_cons (se_str rfl (by decide)) (sa_cons (se_str rfl (by decide)) sa_nil)))) rfl) (ss_one (s_ret (se_cp (cr_eq hR) (se_len hB rfl (fr3 C) (se_var hB rfl (.inl rfl))) se_int rfl))) ss_nil) (ss_cons (s_if (st_of_pw (spw_or (st_cp (cr_eq hR) (se_var hB rfl (.inl rfl)) (se_str rfl (by decide)) rfl) (spw_or1 (st_cp (cr_eq hR) (se_var hB rfl (.inl rfl)) (se_str rfl (by decide)) rfl)))) (ss_one (s_ret (se_and (se_cp (cr_eq hR) (se_len hB rfl (fr3 C) (se_var hB rfl (.inl rfl))) se_int rfl) (se_one (se_call hB hR (gl41 C) rfl (sa_cons (se_item hB.K (se_var hB rfl (.inl rfl)) se_int (fun _ _ => rfl)) sa_nil)))))) ss_nil) (ss_cons (s_if (st_cp (cr_eq hR) (se_var hB rfl (.inl rfl)) (se_str rfl (by decide)) rfl) (ss_one (s_ret (se_and (se_cp (cr_eq hR) (se_len hB rfl (fr3 C) (se_var hB rfl (.inl rfl))) se_int rfl) (se_one (se_call hB hR (gl40 C) rfl (sa_cons (se_item hB.K (se_var hB rfl (.inl rfl)) se_int (fun _ _ => rfl)) (sa_cons se_int (sa_cons (se_var hB rfl (.inl rfl)) sa_nil)))))))) ss_nil) (ss_cons (s_if (st_cp (cr_eq hR) (se_var hB rfl (.inl rfl)) (se_str rfl (by decide)) rfl) (ss_one (s_ret (se_and (se_cp (cr_eq hR) (se_len hB rfl (fr3 C) (se_var hB rfl (.inl rfl))) se_int rfl) (se_one (se_call hB hR (gl40 C) rfl (sa_cons (se_item hB.K (se_var hB rfl (.inl rfl)) se_int (fun _ _ => rfl)) (sa_cons se_int (sa_cons (se_var hB rfl (.inl rfl)) sa_nil)))))))) ss_nil) (ss_cons (s_if (st_cp (cr_eq hR) (se_var hB rfl (.inl rfl)) (se_str rfl (by decide)) rfl) (ss_one (s_ret (se_call hB hR (gl42 C) rfl (sa_cons (se_var hB rfl (.inl rfl)) sa_nil)))) ss_nil) (ss_cons (s_if (st_cp (cr_eq hR) (se_var hB rfl (.inl rfl)) (se_str rfl (by decide)) rfl) (ss_cons (s_expr (se_append hB rfl (.inl rfl) se_int)) (ss_one (s_ret (se_and (se_cp (cr_eq hR) (se_len hB rfl (fr3 C) (se_var hB rfl (.inl rfl))) se_int rfl) (se_one (se_call hB hR (gl40 C) rfl (sa_cons (se_item hB.K (se_var hB rfl (.inl rfl)) se_int (fun _ _ => rfl)) (sa_cons (se_len hB rfl (fr3 C) (se_var hB rfl (.inl rfl))) (sa_cons (se_len hB rfl (fr3 C) (se_var hB rfl (.inl rfl))) sa_nil))))))))) ss_nil) (ss_cons (s_if (st_of_pw (spw_or (st_cp (cr_eq hR) (se_var hB rfl (.inl rfl)) (se_str rfl (by decide)) rfl) (spw_or1 (st_cp (cr_eq hR) (se_var hB rfl (.inl rfl)) (se_str rfl (by decide)) rfl)))) (ss_cons (s_if (st_of_pw (spw_or (st_cp (cr_ne hR) (se_len hB rfl (fr3 C) (se_var hB rfl (.inl rfl))) se_int rfl) (spw_or (st_not (st_val (se_isTy (t := .tuple) hB rfl (fr8 C) rfl rfl (fr4 C) (se_item hB.K (se_var hB rfl (.inl rfl)) se_int (fun _ _ => rfl))) (by intros; rfl))) (spw_or (st_cp cr_gt (se_len hB rfl (fr3 C) (se_item hB.K (se_var hB rfl (.inl rfl)) se_int (fun _ _ => rfl))) se_int rfl) (spw_or1 (st_cp (cr_eq hR) (se_len hB rfl (fr3 C) (se_item hB.K (se_var hB rfl (.inl rfl)) se_int (fun _ _ => rfl))) se_int rfl)))))) (ss_one (s_ret se_bl)) ss_nil) (ss_one (s_ret (se_or (se_cp (cr_eq hR) (se_var hB rfl (.inl rfl)) (se_str rfl (by decide)) rfl) (se_one (se_cp cr_gt (se_len hB rfl (fr3 C) (se_item hB.K (se_var hB rfl (.inl rfl)) se_int (fun _ _ => rfl))) se_int rfl)))))) ss_nil) (ss_one (s_ret (se_and (se_cp (cr_eq hR) (se_len hB rfl (fr3 C) (se_var hB rfl (.inl rfl))) se_int rfl) (se_one (se_cp (cr_in hB) (se_var hB rfl (.inl rfl)) (se_tup (sa_cons (se_str rfl (by decide)) (sa_cons (se_str rfl (by decide)) (sa_cons (se_str rfl (by decide)) (sa_cons (se_str rfl (by decide)) (sa_cons (se_str rfl (by decide)) sa_nil)))))) rfl))))))))))))))
theorem b44 {cn : Cn} {wx : WX} {XP : Cx → Prop} {P : Program} {w : World} {mg : Str → Option Value} {base : Heap} {k : Nat} {S S' : Nat → FSem} (ok : (Cxt.mk cn wx XP P w mg base D44.N D44.d.scope k).Ok) (C : Calls tb (Cxt.mk cn wx XP P w mg base D44.N D44.d.scope k) S S') : SSs (Cxt.mk cn wx XP P w mg base D44.N D44.d.scope k) D44.d.body (c_law_size S S') :=
  have hB := ok.B
  have hR := ok.R
  have hF := ok.F
  have hL := ok.L
  (ss_cons (s_if (st_of_pw (spw_or (st_cp cr_gt (se_var hB rfl (.inl rfl)) se_int rfl) (spw_or (st_not (st_val (se_isTy (t := .tuple) hB rfl (fr8 C) rfl rfl (fr4 C) (se_var hB rfl (.inl rfl))) (by intros; rfl))) (spw_or (st_cp cr_lt (se_len hB rfl (fr3 C) (se_var hB rfl (.inl rfl))) se_int rfl) (spw_or1 (st_not (st_val (se_isTy (t := .str) hB rfl (fr8 C) rfl rfl (fr2 C) (se_item hB.K (se_var hB rfl (.inl rfl)) se_int (fun _ _ => rfl))) (by intros; rfl)))))))) (ss_one (s_ret se_int)) ss_nil) (ss_cons (s_if (st_not (st_val (se_call hB hR (gl43 C) rfl (sa_cons (se_var hB rfl (.inl rfl)) (sa_cons (se_var hB rfl (.inl rfl)) (sa_cons (se_var hB rfl (.inl rfl)) sa_nil)))) (by intros; rfl))) (ss_one (s_ret se_int)) ss_nil) (ss_cons (s_set hB rfl hF (.inl rfl) se_int) (ss_cons (s_for hB hR hL hF rfl (.inl rfl) (si_val hB (se_call hB hR (gl38 C) rfl (sa_cons (se_var hB rfl (.inl rfl)) sa_nil))) (ss_cons (s_set hB rfl hF (.inl rfl) (se_add hB (se_var hB rfl (.inl rfl)) (se_call hB hR (gl44 C) rfl (sa_cons (se_var hB rfl (.inl rfl)) (sa_cons (se_var hB rfl (.inl rfl)) (sa_cons (se_var hB rfl (.inl rfl)) (sa_cons (se_add hB (se_var hB rfl (.inl rfl)) se_int) sa_nil))))))) (ss_one (s_if (st_of_pw (spw_and (st_cp (cr_in hB) (se_item hB.K (se_var hB rfl (.inl rfl)) se_int (fun _ _ => rfl)) (se_tup (sa_cons (se_str rfl (by decide)) (sa_cons (se_str rfl (by decide)) sa_nil))) rfl) (spw_and (st_cp cr_lt (se_var hB rfl (.inl rfl)) se_int rfl) (spw_and1 (st_cp (cr_eq hR) (se_item hB.K (se_var hB rfl (.inl rfl)) se_int (fun _ _ => rfl)) (se_item hB.K (se_var hB rfl (.inl rfl)) se_int (fun _ _ => rfl)) rfl))))) (ss_one (s_ret se_int)) ss_nil)))) (ss_one (s_ret (se_var hB rfl (.inl rfl))))))))
theorem b45 {cn : Cn} {wx : WX} {XP : Cx → Prop} {P : Program} {w : World} {mg : Str → Option Value} {base : Heap} {k : Nat} {S S' : Nat → FSem} (ok : (Cxt.mk cn wx XP P w mg base D45.N D45.d.scope k).Ok) (C : Calls tb (Cxt.mk cn wx XP P w mg base D45.N D45.d.scope k) S S') : SSs (Cxt.mk cn wx XP P w mg base D45.N D45.d.scope k) D45.d.body (c_law_good S S') :=
  have hB := ok.B
  have hR := ok.R
  have hF := ok.F
  have hL := ok.L
  (ss_cons (s_own hB rfl hF (.inl rfl) (sl_lst sa_nil)) (ss_one (s_ret (se_and (se_cp cr_le (se_call hB hR (gl44 C) rfl (sa_cons (se_var hB rfl (.inl rfl)) (sa_cons (se_var hB rfl (.inl rfl)) (sa_cons (se_var hB rfl (.inl rfl)) (sa_cons se_int sa_nil))))) se_int rfl) (se_and (se_cp (cr_eq hR) (se_len hB rfl (fr3 C) (se_var hB rfl (.inl rfl))) (se_var hB rfl (.inl rfl)) rfl) (se_one (se_cp cr_le (se_var hB rfl (.inl rfl)) se_int rfl)))))))
theorem b46 {cn : Cn} {wx : WX} {XP : Cx → Prop} {P : Program} {w : World} {mg : Str → Option Value} {base : Heap} {k : Nat} {S S' : Nat → FSem} (ok : (Cxt.mk cn wx XP P w mg base D46.N D46.d.scope k).Ok) (C : Calls tb (Cxt.mk cn wx XP P w mg base D46.N D46.d.scope k) S S') : SSs (Cxt.mk cn wx XP P w mg base D46.N D46.d.scope k) D46.d.body (c_law_refused S S') :=
  have hB := ok.B
  have hR := ok.R
  have hF := ok.F
  have hL := ok.L
  (ss_cons (s_set hB rfl hF (.inl rfl) se_bl) (ss_cons (s_tryAs hB ok.er ok.st hR rfl rfl rfl (ca0 C) (fun W => have hB0 := hB; have hB := Cxt.B.tr (W := W) hB; have hR := Cxt.R.tr (W := W) hR; have hF := Cxt.F.tr (W := W) hF; have hL := Cxt.L.tr (W := W) hL; have C := Calls.tr (W := W) C; (ss_one (s_expr (se_call hB hR (gl20 C) rfl (sa_cons (se_var hB rfl (.inl rfl)) sa_nil))))) (fun a nm Ca hC _ => have hB0 := hB; have C0 := C; have hB := Cxt.B.su (a := a) (n := nm) (C := Ca) hB; have hF := Cxt.F.su (a := a) (n := nm) (C := Ca) hF; have C := Calls.su (ad := a) (n := nm) (Ca := Ca) C; (ss_cons (s_set hB rfl hF (.inl rfl) (se_and (se_isE hB0 rfl (.inl rfl) rfl (fr8 C0) rfl (ie0 C0) hC) (se_one (se_isE hB0 rfl (.inl rfl) rfl (fr8 C0) rfl (ie1 C0) hC)))) (ss_cons (s_set hB rfl hF (.inl rfl) (se_and (se_var hB rfl (.inl rfl)) (se_and (se_not (se_isE hB0 rfl (.inl rfl) rfl (fr8 C0) rfl (ie2 C0) hC)) (se_one (se_not (se_isE hB0 rfl (.inl rfl) rfl (fr8 C0) rfl (ie3 C0) hC)))))) (ss_one (s_set hB rfl hF (.inl rfl) (se_and (se_var hB rfl (.inl rfl)) (se_one (se_not (se_isE hB0 rfl (.inl rfl) rfl (fr8 C0) rfl (ie4 C0) hC)))))))))) (ss_one (s_ret (se_var hB rfl (.inl rfl))))))
theorem b47 {cn : Cn} {wx : WX} {XP : Cx → Prop} {P : Program} {w : World} {mg : Str → Option Value} {base : Heap} {k : Nat} {S S' : Nat → FSem} (ok : (Cxt.mk cn wx XP P w mg base D47.N D47.d.scope k).Ok) (C : Calls tb (Cxt.mk cn wx XP P w mg base D47.N D47.d.scope k) S S') : SSs (Cxt.mk cn wx XP P w mg base D47.N D47.d.scope k) D47.d.body (c_law_beyond S S') :=
  have hB := ok.B
  have hR := ok.R
  have hF := ok.F
  have hL := ok.L
  (ss_cons (s_set hB rfl hF (.inl rfl) (se_call hB hR (gl21 C) rfl (sa_cons (se_var hB rfl (.inl rfl)) (sa_cons se_int sa_nil)))) (ss_cons (s_if (st_cp (cr_eq hR) (se_var hB rfl (.inl rfl)) se_int rfl) (ss_one (s_ret (se_call hB hR (gl30 C) rfl (sa_cons (se_var hB rfl (.inl rfl)) (sa_cons (se_var hB rfl (.inr (.inl rfl))) (sa_cons (se_add hB se_int (se_call hB hR (gl21 C) rfl (sa_cons (se_var hB rfl (.inl rfl)) (sa_cons se_int sa_nil)))) sa_nil)))))) ss_nil) (ss_cons (s_if (st_cp (cr_eq hR) (se_var hB rfl (.inl rfl)) se_int rfl) (ss_one (s_ret (se_call hB hR (gl31 C) rfl (sa_cons (se_var hB rfl (.inl rfl)) (sa_cons (se_var hB rfl (.inr (.inl rfl))) (sa_cons (se_add hB se_int (se_call hB hR (gl21 C) rfl (sa_cons (se_var hB rfl (.inl rfl)) (sa_cons se_int sa_nil)))) (sa_cons (se_add hB se_int (se_call hB hR (gl21 C) rfl (sa_cons (se_var hB rfl (.inl rfl)) (sa_cons se_int sa_nil)))) sa_nil))))))) ss_nil) (ss_cons (s_if (st_cp (cr_eq hR) (se_var hB rfl (.inl rfl)) se_int rfl) (ss_one (s_ret (se_tup (sa_cons (se_str rfl (by decide)) (sa_cons (se_tuple hB rfl (fr4 C) (se_of_sl (sl_comp hB hR rfl (by rfl) rfl (si_rng hB rfl (fr6 C) (se_add hB se_int (se_call hB hR (gl21 C) rfl (sa_cons (se_var hB rfl (.inl rfl)) (sa_cons se_int sa_nil))))) sf_nil (se_tup (sa_cons (se_str rfl (by decide)) (sa_cons (se_add hB.blk (se_var hB.blk rfl (.inl rfl)) se_int) (sa_cons (se_tup (sa_cons (se_str rfl (by decide)) sa_nil)) sa_nil))))))) sa_nil))))) ss_nil) (ss_cons (s_if (st_cp (cr_eq hR) (se_var hB rfl (.inl rfl)) se_int rfl) (ss_cons (s_ownComp hB hR rfl rfl rfl (by rfl) rfl (fun X hx => sw_true (by rw [(hB X hx).sc]; rfl) (by rw [(hB X hx).sc]; rfl) rfl rfl) (si_rng hB rfl (fr6 C) (se_add hB se_int (se_call hB hR (gl21 C) rfl (sa_cons (se_var hB rfl (.inl rfl)) (sa_cons se_int sa_nil))))) sf_nil (se_tup (sa_cons (se_item hB.blk.K (se_var hB.blk rfl (.inr (.inl rfl))) se_int (fun _ _ => rfl)) (sa_cons (se_item hB.blk.K (se_var hB.blk rfl (.inr (.inl rfl))) se_int (fun _ _ => rfl)) sa_nil)))) (ss_one (s_ret (se_tup (sa_cons (se_str rfl (by decide)) (sa_cons (se_tuple hB rfl (fr4 C) (se_var hB rfl (.inl rfl))) sa_nil)))))) ss_nil) (ss_cons (s_set hB rfl hF (.inl rfl) (se_tup (sa_cons (se_str rfl (by decide)) (sa_cons se_int (sa_cons (se_tup (sa_cons (se_str rfl (by decide)) (sa_cons (se_call hB hR (gl21 C) rfl (sa_cons (se_var hB rfl (.inl rfl)) (sa_cons se_int sa_nil))) sa_nil))) sa_nil))))) (ss_one (s_ret (se_tup (sa_cons (se_str rfl (by decide)) (sa_cons (se_call hB hR (gl21 C) rfl (sa_cons (se_var hB rfl (.inl rfl)) (sa_cons se_int sa_nil))) (sa_cons (se_call hB hR (gl21 C) rfl (sa_cons (se_var hB rfl (.inl rfl)) (sa_cons se_int sa_nil))) (sa_cons (se_str rfl (by decide)) (sa_cons (se_var hB rfl (.inl rfl)) sa_nil))))))))))))))
theorem b48 {cn : Cn} {wx : WX} {XP : Cx → Prop} {P : Program} {w : World} {mg : Str → Option Value} {base : Heap} {k : Nat} {S S' : Nat → FSem} (ok : (Cxt.mk cn wx XP P w mg base D48.N D48.d.scope k).Ok) (C : Calls tb (Cxt.mk cn wx XP P w mg base D48.N D48.d.scope k) S S') : SSs (Cxt.mk cn wx XP P w mg base D48.N D48.d.scope k) D48.d.body (c_law_spoilt S S') :=
  have hB := ok.B
  have hR := ok.R
  have hF := ok.F
  have hL := ok.L
  (ss_cons (s_for hB hR hL hF rfl (.inl rfl) (si_rng hB rfl (fr6 C) (se_add hB se_int (se_call hB hR (gl21 C) rfl (sa_cons (se_var hB rfl (.inl rfl)) (sa_cons se_int sa_nil))))) (ss_cons (s_set hB rfl hF (.inl rfl) (se_call hB hR (gl21 C) rfl (sa_cons (se_var hB rfl (.inl rfl)) (sa_cons (se_add hB (se_len hB rfl (fr3 C) (se_var hB rfl (.inl rfl))) se_int) sa_nil)))) (ss_cons (s_set hB rfl hF (.inl rfl) (se_item hB.K (se_var hB rfl (.inl rfl)) (se_call hB hR (gl21 C) rfl (sa_cons (se_var hB rfl (.inl rfl)) (sa_cons se_int sa_nil))) (fun _ _ => rfl))) (ss_cons (s_if (st_cp (cr_eq hR) (se_call hB hR (gl21 C) rfl (sa_cons (se_var hB rfl (.inl rfl)) (sa_cons se_int sa_nil))) se_int rfl) (ss_one (s_set hB rfl hF (.inl rfl) (se_item hB.K (se_str rfl (by decide)) (se_call hB hR (gl21 C) rfl (sa_cons (se_var hB rfl (.inl rfl)) (sa_cons se_int sa_nil))) (fun _ _ => rfl)))) ss_nil) (ss_cons (s_set hB rfl hF (.inl rfl) (se_call hB hR (gl21 C) rfl (sa_cons (se_var hB rfl (.inl rfl)) (sa_cons se_int sa_nil)))) (ss_one (s_set hB rfl hF (.inl rfl) (se_add hB (se_add hB (se_slice hB.K (se_var hB rfl (.inl rfl)) sp_none (sp_some (se_var hB rfl (.inl rfl)))) (se_item hB.K (se_of_sl (sl_lst (sa_cons (se_str rfl (by decide)) (sa_cons (se_var hB rfl (.inl rfl)) (sa_cons (se_var hB rfl (.inl rfl)) sa_nil))))) (se_var hB rfl (.inl rfl)) (fun _ _ => rfl))) (se_slice hB.K (se_var hB rfl (.inl rfl)) (sp_some (se_add hB (se_var hB rfl (.inl rfl)) (se_item hB.K (se_of_sl (sl_lst (sa_cons se_int (sa_cons se_int (sa_cons se_int sa_nil))))) (se_var hB rfl (.inl rfl)) (fun _ _ => rfl)))) sp_none))))))))) (ss_one (s_ret (se_var hB rfl (.inl rfl)))))
theorem b49 {cn : Cn} {wx : WX} {XP : Cx → Prop} {P : Program} {w : World} {mg : Str → Option Value} {base : Heap} {k : Nat} {S S' : Nat → FSem} (ok : (Cxt.mk cn wx XP P w mg base D49.N D49.d.scope k).Ok) (C : Calls tb (Cxt.mk cn wx XP P w mg base D49.N D49.d.scope k) S S') : SSs (Cxt.mk cn wx XP P w mg base D49.N D49.d.scope k) D49.d.body (c_law_line S S') :=
  have hB := ok.B
  have hR := ok.R
  have hF := ok.F
  have hL := ok.L
  (ss_cons (s_set hB rfl hF (.inl rfl) (se_call hB hR (gl21 C) rfl (sa_cons (se_var hB rfl (.inl rfl)) (sa_cons se_int sa_nil)))) (ss_cons (s_if (st_cp cr_lt (se_var hB rfl (.inl rfl)) se_int rfl) (ss_cons (s_set hB rfl hF (.inl rfl) (se_str rfl (by decide))) (ss_cons (s_for hB hR hL hF rfl (.inl rfl) (si_rng hB rfl (fr6 C) (se_call hB hR (gl21 C) rfl (sa_cons (se_var hB rfl (.inl rfl)) (sa_cons se_int sa_nil)))) (ss_one (s_set hB rfl hF (.inl rfl) (se_add hB (se_var hB rfl (.inl rfl)) (se_item hB.K (se_str rfl (by decide)) (se_call hB hR (gl21 C) rfl (sa_cons (se_var hB rfl (.inl rfl)) (sa_cons se_int sa_nil))) (fun _ _ => rfl)))))) (ss_one (s_ret (se_var hB rfl (.inl rfl)))))) ss_nil) (ss_cons (s_if (st_cp cr_lt (se_var hB rfl (.inl rfl)) se_int rfl) (ss_one (s_set hB rfl hF (.inl rfl) (se_call hB hR (gl37 C) rfl (sa_cons (se_call hB hR (gl47 C) rfl (sa_cons (se_var hB rfl (.inl rfl)) (sa_cons (se_var hB rfl (.inl rfl)) sa_nil))) sa_nil)))) (ss_one (s_set hB rfl hF (.inl rfl) (se_call hB hR (gl37 C) rfl (sa_cons (se_item hB.K (se_call hB hR (gl29 C) rfl (sa_cons (se_var hB rfl (.inl rfl)) (sa_cons (se_var hB rfl (.inl rfl)) (sa_cons se_int sa_nil)))) se_int (fun _ _ => rfl)) sa_nil))))) (ss_cons (s_if (st_of_pw (spw_or (st_cp (cr_eq hR) (se_call hB hR (gl21 C) rfl (sa_cons (se_var hB rfl (.inl rfl)) (sa_cons se_int sa_nil))) se_int rfl) (spw_or1 (st_cp (cr_eq hR) (se_var hB rfl (.inl rfl)) se_int rfl)))) (ss_one (s_ret (se_var hB rfl (.inl rfl)))) ss_nil) (ss_one (s_ret (se_call hB hR (gl48 C) rfl (sa_cons (se_var hB rfl (.inl rfl)) (sa_cons (se_var hB rfl (.inl rfl)) (sa_cons (se_var hB rfl (.inl rfl)) sa_nil))))))))))
theorem b50 {cn : Cn} {wx : WX} {XP : Cx → Prop} {P : Program} {w : World} {mg : Str → Option Value} {base : Heap} {k : Nat} {S S' : Nat → FSem} (ok : (Cxt.mk cn wx XP P w mg base D50.N D50.d.scope k).Ok) (C : Calls tb (Cxt.mk cn wx XP P w mg base D50.N D50.d.scope k) S S') : SSs (Cxt.mk cn wx XP P w mg base D50.N D50.d.scope k) D50.d.body (c_law S S') :=
  have hB := ok.B
  have hR := ok.R
  have hF := ok.F
  have hL := ok.L
  (ss_cons (s_own hB rfl hF (.inl rfl) (sl_list hB rfl (fr0 C) (se_var hB rfl (.inl rfl)))) (ss_cons (s_set hB rfl hF (.inl rfl) (se_call hB hR (gl23 C) rfl (sa_cons (se_var hB rfl (.inl rfl)) sa_nil))) (ss_cons (s_set hB rfl hF (.inr rfl) (se_call hB hR (gl49 C) rfl (sa_cons (se_var hB rfl (.inl rfl)) (sa_cons (se_var hB rfl (.inl rfl)) sa_nil)))) (ss_cons (s_set hB rfl hF (.inl rfl) (se_len hB rfl (fr3 C) (se_of_sl (sl_comp hB hR rfl (by rfl) rfl (si_rng hB rfl (fr6 C) (se_len hB rfl (fr3 C) (se_var hB rfl (.inr (.inl rfl))))) (sf_one (st_cp (cr_eq hR.blk) (se_item hB.blk.K (se_var hB.blk rfl (.inr (.inl rfl))) (se_var hB.blk rfl (.inl rfl)) (fun _ _ => rfl)) (se_str rfl (by decide)) rfl)) se_int)))) (ss_cons (s_set hB rfl hF (.inr rfl) se_non) (ss_cons (s_set hB rfl hF (.inl rfl) se_bl) (ss_cons (s_tryO hB ok.st hR rfl (ca1 C) (fun W => have hB0 := hB; have hB := Cxt.B.tr (W := W) hB; have hR := Cxt.R.tr (W := W) hR; have hF := Cxt.F.tr (W := W) hF; have hL := Cxt.L.tr (W := W) hL; have C := Calls.tr (W := W) C; (ss_one (s_set hB rfl hF (.inr rfl) (se_call hB hR (gl20 C) rfl (sa_cons (se_var hB rfl (.inr (.inl rfl))) sa_nil))))) (have hB := Cxt.B.su0 hB; have hF := Cxt.F.su0 hF; have C := Calls.su0 C; (ss_one (s_set hB rfl hF (.inl rfl) se_bl)))) (ss_cons (s_if (st_val (se_var hB rfl (.inl rfl)) (by intros; rfl)) (ss_one (s_ret (se_call hB hR (gl46 C) rfl (sa_cons (se_var hB rfl (.inr (.inl rfl))) sa_nil)))) ss_nil) (ss_cons (s_set hB rfl hF (.inl rfl) (se_len hB rfl (fr3 C) (se_of_sl (sl_comp hB hR rfl (by rfl) rfl (si_rng hB rfl (fr6 C) (se_var hB rfl (.inl rfl))) (sf_one (st_val (se_call hB.blk hR.blk (gl45 C.blk) rfl (sa_cons (se_var hB.blk rfl (.inr (.inl rfl))) (sa_cons (se_add hB.blk (se_var hB.blk rfl (.inl rfl)) se_int) sa_nil))) (by intros; rfl))) se_int)))) (ss_cons (s_if (st_of_pw (spw_and (st_not (st_val (se_call hB hR (gl45 C) rfl (sa_cons (se_var hB rfl (.inr (.inl rfl))) (sa_cons se_int sa_nil))) (by intros; rfl))) (spw_and1 (st_cp (cr_ne hR) (se_var hB rfl (.inl rfl)) se_int rfl)))) (ss_one (s_ret se_bl)) ss_nil) (ss_one (s_ret (se_cp (cr_eq hR) (se_call hB hR (gl37 C) rfl (sa_cons (se_var hB rfl (.inr (.inl rfl))) sa_nil)) (se_var hB rfl (.inr (.inl rfl))) rfl)))))))))))))
theorem bi0 : Bi D0 := fun _ _ _ _ _ _ us hl => match us, hl with | [_], _ => rfl
theorem bi1 : Bi D1 := fun _ _ _ _ _ _ us hl => match us, hl with | [_], _ => rfl
theorem bi2 : Bi D2 := fun _ _ _ _ _ _ us hl => match us, hl with | [_, _], _ => rfl
theorem bi3 : Bi D3 := fun _ _ _ _ _ _ us hl => match us, hl with | [_], _ => rfl
theorem bi4 : Bi D4 := fun _ _ _ _ _ _ us hl => match us, hl with | [_], _ => rfl
theorem bi5 : Bi D5 := fun _ _ _ _ _ _ us hl => match us, hl with | [_], _ => rfl
theorem bi6 : Bi D6 := fun _ _ _ _ _ _ us hl => match us, hl with | [_], _ => rfl
theorem bi7 : Bi D7 := fun _ _ _ _ _ _ us hl => match us, hl with | [_, _], _ => rfl
theorem bi8 : Bi D8 := fun _ _ _ _ _ _ us hl => match us, hl with | [_], _ => rfl
theorem bi9 : Bi D9 := fun _ _ _ _ _ _ us hl => match us, hl with | [_], _ => rfl
theorem bi10 : Bi D10 := fun _ _ _ _ _ _ us hl => match us, hl with | [_, _], _ => rfl
theorem bi11 : Bi D11 := fun _ _ _ _ _ _ us hl => match us, hl with | [_], _ => rfl
theorem bi12 : Bi D12 := fun _ _ _ _ _ _ us hl => match us, hl with | [_, _], _ => rfl
theorem bi13 : Bi D13 := fun _ _ _ _ _ _ us hl => match us, hl with | [_, _], _ => rfl
theorem bi14 : Bi D14 := fun _ _ _ _ _ _ us hl => match us, hl with | [_, _], _ => rfl
theorem bi15 : Bi D15 := fun _ _ _ _ _ _ us hl => match us, hl with | [_, _], _ => rfl
theorem bi16 : Bi D16 := fun _ _ _ _ _ _ us hl => match us, hl with | [_, _], _ => rfl
theorem bi17 : Bi D17 := fun _ _ _ _ _ _ us hl => match us, hl with | [_], _ => rfl
theorem bi18 : Bi D18 := fun _ _ _ _ _ _ us hl => match us, hl with | [_], _ => rfl
theorem bi19 : Bi D19 := fun _ _ _ _ _ _ us hl => match us, hl with | [_, _, _], _ => rfl
theorem bi20 : Bi D20 := fun _ _ _ _ _ _ us hl => match us, hl with | [_], _ => rfl
theorem bi21 : Bi D21 := fun _ _ _ _ _ _ us hl => match us, hl with | [_, _], _ => rfl
theorem bi22 : Bi D22 := fun _ _ _ _ _ _ us hl => match us, hl with | [_], _ => rfl
theorem bi23 : Bi D23 := fun _ _ _ _ _ _ us hl => match us, hl with | [_], _ => rfl
theorem bi24 : Bi D24 := fun _ _ _ _ _ _ us hl => match us, hl with | [_, _], _ => rfl
theorem bi25 : Bi D25 := fun _ _ _ _ _ _ us hl => match us, hl with | [_, _, _], _ => rfl
theorem bi26 : Bi D26 := fun _ _ _ _ _ _ us hl => match us, hl with | [_, _, _, _, _], _ => rfl
theorem bi27 : Bi D27 := fun _ _ _ _ _ _ us hl => match us, hl with | [_, _, _, _], _ => rfl
theorem bi28 : Bi D28 := fun _ _ _ _ _ _ us hl => match us, hl with | [_, _, _, _], _ => rfl
theorem bi29 : Bi D29 := fun _ _ _ _ _ _ us hl => match us, hl with | [_, _, _], _ => rfl
theorem bi30 : Bi D30 := fun _ _ _ _ _ _ us hl => match us, hl with | [_, _, _], _ => rfl
theorem bi31 : Bi D31 := fun _ _ _ _ _ _ us hl => match us, hl with | [_, _, _, _], _ => rfl
theorem bi32 : Bi D32 := fun _ _ _ _ _ _ us hl => match us, hl with | [_, _], _ => rfl
theorem bi33 : Bi D33 := fun _ _ _ _ _ _ us hl => match us, hl with | [_, _], _ => rfl
theorem bi34 : Bi D34 := fun _ _ _ _ _ _ us hl => match us, hl with | [_], _ => rfl
theorem bi35 : Bi D35 := fun _ _ _ _ _ _ us hl => match us, hl with | [_, _], _ => rfl
theorem bi36 : Bi D36 := fun _ _ _ _ _ _ us hl => match us, hl with | [_], _ => rfl
theorem bi37 : Bi D37 := fun _ _ _ _ _ _ us hl => match us, hl with | [_], _ => rfl
theorem bi38 : Bi D38 := fun _ _ _ _ _ _ us hl => match us, hl with | [_], _ => rfl
theorem bi39 : Bi D39 := fun _ _ _ _ _ _ us hl => match us, hl with | [_, _], _ => rfl
theorem bi40 : Bi D40 := fun _ _ _ _ _ _ us hl => match us, hl with | [_, _, _], _ => rfl
theorem bi41 : Bi D41 := fun _ _ _ _ _ _ us hl => match us, hl with | [_], _ => rfl
theorem bi42 : Bi D42 := fun _ _ _ _ _ _ us hl => match us, hl with | [_], _ => rfl
theorem bi43 : Bi D43 := fun _ _ _ _ _ _ us hl => match us, hl with | [_, _, _], _ => rfl
theorem bi44 : Bi D44 := fun _ _ _ _ _ _ us hl => match us, hl with | [_, _, _, _], _ => rfl
theorem bi45 : Bi D45 := fun _ _ _ _ _ _ us hl => match us, hl with | [_, _], _ => rfl
theorem bi46 : Bi D46 := fun _ _ _ _ _ _ us hl => match us, hl with | [_], _ => rfl
theorem bi47 : Bi D47 := fun _ _ _ _ _ _ us hl => match us, hl with | [_, _], _ => rfl
theorem bi48 : Bi D48 := fun _ _ _ _ _ _ us hl => match us, hl with | [_, _, _], _ => rfl
theorem bi49 : Bi D49 := fun _ _ _ _ _ _ us hl => match us, hl with | [_, _], _ => rfl
theorem bi50 : Bi D50 := fun _ _ _ _ _ _ us hl => match us, hl with | [_], _ => rfl
theorem bi_all : All (fun _ => Bi) 0 tb.D := ⟨bi0, bi1, bi2, bi3, bi4, bi5, bi6, bi7, bi8, bi9, bi10, bi11, bi12, bi13, bi14, bi15, bi16, bi17, bi18, bi19, bi20, bi21, bi22, bi23, bi24, bi25, bi26, bi27, bi28, bi29, bi30, bi31, bi32, bi33, bi34, bi35, bi36, bi37, bi38, bi39, bi40, bi41, bi42, bi43, bi44, bi45, bi46, bi47, bi48, bi49, bi50, trivial⟩
theorem bo_all : All (Bo tb codes) 0 tb.D := ⟨fun _ _ _ _ _ _ _ _ _ _ _ _ _ ok C => ⟨_, rfl, rfl, rfl, b0 ok C⟩, fun _ _ _ _ _ _ _ _ _ _ _ _ _ ok C => ⟨_, rfl, rfl, rfl, b1 ok C⟩, fun _ _ _ _ _ _ _ _ _ _ _ _ _ ok C => ⟨_, rfl, rfl, rfl, b2 ok C⟩, fun _ _ _ _ _ _ _ _ _ _ _ _ _ ok C => ⟨_, rfl, rfl, rfl, b3 ok C⟩, fun _ _ _ _ _ _ _ _ _ _ _ _ _ ok C => ⟨_, rfl, rfl, rfl, b4 ok C⟩, fun _ _ _ _ _ _ _ _ _ _ _ _ _ ok C => ⟨_, rfl, rfl, rfl, b5 ok C⟩, fun _ _ _ _ _ _ _ _ _ _ _ _ _ ok C => ⟨_, rfl, rfl, rfl, b6 ok C⟩, fun _ _ _ _ _ _ _ _ _ _ _ _ _ ok C => ⟨_, rfl, rfl, rfl, b7 ok C⟩, fun _ _ _ _ _ _ _ _ _ _ _ _ _ ok C => ⟨_, rfl, rfl, rfl, b8 ok C⟩, fun _ _ _ _ _ _ _ _ _ _ _ _ _ ok C => ⟨_, rfl, rfl, rfl, b9 ok C⟩, fun _ _ _ _ _ _ _ _ _ _ _ _ _ ok C => ⟨_, rfl, rfl, rfl, b10 ok C⟩, fun _ _ _ _ _ _ _ _ _ _ _ _ _ ok C => ⟨_, rfl, rfl, rfl, b11 ok C⟩, fun _ _ _ _ _ _ _ _ _ _ _ _ _ ok C => ⟨_, rfl, rfl, rfl, b12 ok C⟩, fun _ _ _ _ _ _ _ _ _ _ _ _ _ ok C => ⟨_, rfl, rfl, rfl, b13 ok C⟩, fun _ _ _ _ _ _ _ _ _ _ _ _ _ ok C => ⟨_, rfl, rfl, rfl, b14 ok C⟩, fun _ _ _ _ _ _ _ _ _ _ _ _ _ ok C => ⟨_, rfl, rfl, rfl, b15 ok C⟩, fun _ _ _ _ _ _ _ _ _ _ _ _ _ ok C => ⟨_, rfl, rfl, rfl, b16 ok C⟩, fun _ _ _ _ _ _ _ _ _ _ _ _ _ ok C => ⟨_, rfl, rfl, rfl, b17 ok C⟩, fun _ _ _ _ _ _ _ _ _ _ _ _ _ ok C => ⟨_, rfl, rfl, rfl, b18 ok C⟩, fun _ _ _ _ _ _ _ _ _ _ _ _ _ ok C => ⟨_, rfl, rfl, rfl, b19 ok C⟩, fun _ _ _ _ _ _ _ _ _ _ _ _ _ ok C => ⟨_, rfl, rfl, rfl, b20 ok C⟩, fun _ _ _ _ _ _ _ _ _ _ _ _ _ ok C => ⟨_, rfl, rfl, rfl, b21 ok C⟩, fun _ _ _ _ _ _ _ _ _ _ _ _ _ ok C => ⟨_, rfl, rfl, rfl, b22 ok C⟩, fun _ _ _ _ _ _ _ _ _ _ _ _ _ ok C => ⟨_, rfl, rfl, rfl, b23 ok C⟩, fun _ _ _ _ _ _ _ _ _ _ _ _ _ ok C => ⟨_, rfl, rfl, rfl, b24 ok C⟩, fun _ _ _ _ _ _ _ _ _ _ _ _ _ ok C => ⟨_, rfl, rfl, rfl, b25 ok C⟩, fun _ _ _ _ _ _ _ _ _ _ _ _ _ ok C => ⟨_, rfl, rfl, rfl, b26 ok C⟩, fun _ _ _ _ _ _ _ _ _ _ _ _ _ ok C => ⟨_, rfl, rfl, rfl, b27 ok C⟩, fun _ _ _ _ _ _ _ _ _ _ _ _ _ ok C => ⟨_, rfl, rfl, rfl, b28 ok C⟩, fun _ _ _ _ _ _ _ _ _ _ _ _ _ ok C => ⟨_, rfl, rfl, rfl, b29 ok C⟩, fun _ _ _ _ _ _ _ _ _ _ _ _ _ ok C => ⟨_, rfl, rfl, rfl, b30 ok C⟩, fun _ _ _ _ _ _ _ _ _ _ _ _ _ ok C => ⟨_, rfl, rfl, rfl, b31 ok C⟩, fun _ _ _ _ _ _ _ _ _ _ _ _ _ ok C => ⟨_, rfl, rfl, rfl, b32 ok C⟩, fun _ _ _ _ _ _ _ _ _ _ _ _ _ ok C => ⟨_, rfl, rfl, rfl, b33 ok C⟩, fun _ _ _ _ _ _ _ _ _ _ _ _ _ ok C => ⟨_, rfl, rfl, rfl, b34 ok C⟩, fun _ _ _ _ _ _ _ _ _ _ _ _ _ ok C => ⟨_, rfl, rfl, rfl, b35 ok C⟩, fun _ _ _ _ _ _ _ _ _ _ _ _ _ ok C => ⟨_, rfl, rfl, rfl, b36 ok C⟩, fun _ _ _ _ _ _ _ _ _ _ _ _ _ ok C => ⟨_, rfl, rfl, rfl, b37 ok C⟩, fun _ _ _ _ _ _ _ _ _ _ _ _ _ ok C => ⟨_, rfl, rfl, rfl, b38 ok C⟩, fun _ _ _ _ _ _ _ _ _ _ _ _ _ ok C => ⟨_, rfl, rfl, rfl, b39 ok C⟩, fun _ _ _ _ _ _ _ _ _ _ _ _ _ ok C => ⟨_, rfl, rfl, rfl, b40 ok C⟩, fun _ _ _ _ _ _ _ _ _ _ _ _ _ ok C => ⟨_, rfl, rfl, rfl, b41 ok C⟩, fun _ _ _ _ _ _ _ _ _ _ _ _ _ ok C => ⟨_, rfl, rfl, rfl, b42 ok C⟩, fun _ _ _ _ _ _ _ _ _ _ _ _ _ ok C => ⟨_, rfl, rfl, rfl, b43 ok C⟩, fun _ _ _ _ _ _ _ _ _ _ _ _ _ ok C => ⟨_, rfl, rfl, rfl, b44 ok C⟩, fun _ _ _ _ _ _ _ _ _ _ _ _ _ ok C => ⟨_, rfl, rfl, rfl, b45 ok C⟩, fun _ _ _ _ _ _ _ _ _ _ _ _ _ ok C => ⟨_, rfl, rfl, rfl, b46 ok C⟩, fun _ _ _ _ _ _ _ _ _ _ _ _ _ ok C => ⟨_, rfl, rfl, rfl, b47 ok C⟩, fun _ _ _ _ _ _ _ _ _ _ _ _ _ ok C => ⟨_, rfl, rfl, rfl, b48 ok C⟩, fun _ _ _ _ _ _ _ _ _ _ _ _ _ ok C => ⟨_, rfl, rfl, rfl, b49 ok C⟩, fun _ _ _ _ _ _ _ _ _ _ _ _ _ ok C => ⟨_, rfl, rfl, rfl, b50 ok C⟩, trivial⟩
theorem ck : tb.ck = true := by kernel_rfl
def loose : List Str := (["SeekError", "Unread", "NoForm", "Memory", "Over", "KEEPING", "parts_of", "groups_in", "SPECIAL", "WITHIN", "FIGURES", "LOOKS", "MOST_PARTS", "MOST_DEEP", "MOST_GROUPS", "MOST_BESIDE", "sign_text", "runs_text", "times_text", "row_text", "pattern_text", "Reader", "look_at", "read_pattern", "_law_take", "_law_sign", "_law_letters", "_law_runs", "_law_leaf", "_law_parts"] : List Str) ++ (["_law_times", "_law_pattern", "_law_drawn", "_law_nested", "_law_wide", "_law_many_groups", "_law_signed", "_law_run_text", "_law_inner", "_law_leaf_text", "_law_written", "_law_parts_of", "_law_text_like", "_law_number", "_law_good_runs", "_law_good_turns", "_law_good_head", "_law_size", "_law_good", "_law_refused", "_law_beyond", "_law_spoilt", "_law_line"] : List Str)
abbrev R : PySem.W.OpenRow := PySem.W.OpenLaw.row PySem.Challenge.rw_seek_k05_whole_texts_read
abbrev hk : PySem.W.Hook := He.hookX 4 tb.fa tb.fn tb.ts [] tb.ex
def ob (s : PySem.W.SharedT) : He.AlX := He.obsX 4 tb.fa tb.fn tb.ts [] tb.ex (HandSHeadRun.getT s)
theorem ob_eq (s : PySem.W.SharedT) : ob s = hk.obs s.abs := He.obsX_eq (HandSHeadRun.getT_eq s)
theorem run (w : World) : HandSHeadRun.RunEq R (PySem.W.view R.prog [57]) hk ob 4000 loose w := by
  refine PySem.W.byRow2 "special-get-raises" (fun w => ?_) (fun w => ?_) w
  · intro os; kernel_rfl
  · intro os; kernel_rfl
/-- what is left: the semantics says True -/
theorem facts {P : Program} {w : World} {K : PySem.W.Frag} {h : Heap} {mg : Str → Option Value} {f : Addr} (X : K.In h) (G : h.Ns mainGlobals mg) (hfa : mg ("law" : Str) = some (.ref f)) (c : He.SaysX tb.fa tb.fn tb.ts [] tb.ex w h K) :
    ∃ (fd : FuncData) (spL : L2.Sp), (∀ (s : Shared) (v : Value), BindsTo s fd ⟨[v], []⟩ [("_law_script", v)]) ∧ (∀ (H : Hp) (a : Addr) (ns : List Int), ns.length ≤ 63 → SqL K H a (ns.map V.int) → spL [.ref a] H (fun v _ => v = .bl true) fun _ _ _ => False) ∧ ∀ base : Heap, K.In base → base.Ns mainGlobals mg → FnOk P w K mg base L2.CX0 230 f fd ["_law_script"] spL := by
  obtain ⟨fd, F⟩ := kf_of X G c ck bi_all
  have e := hfa.symm.trans (F.glo 50 (x := D50) rfl rfl)
  cases e
  refine ⟨fd 50, fun vs H Q _ => lowSp K (tabOf K) (sem codes 229 50) vs H Q fun _ _ _ => False, fun s v => ?_, fun H a ns hl hS => ?_, fun base _ _ => ?_⟩
  · exact FunD.bindsA (ps := ["_law_script"]) (F.fn 50 (x := D50) rfl) bi50 s [v] rfl
  · obtain ⟨outs, e⟩ := sem_law ns
    exact law_low hS e
  · exact fn_calm ((prog_ok F (bodies_of bo_all) 229).1 50 D50 rfl)

end HT
open PySem PySem.W PySem.Calls PyProof.Rows
theorem PySem.Challenge.cw_seek_k05_whole_texts_read_holds : PySem.Challenge.rw_seek_k05_whole_texts_read.Holds := by
  w_on; o_law
  refine HandSHeadRun.head_any (r := OpenLaw.row PySem.Challenge.rw_seek_k05_whole_texts_read) (q := view (OpenLaw.row PySem.Challenge.rw_seek_k05_whole_texts_read).prog [57]) (H := HT.hk) (ob := HT.ob) (M := 4000) (loose := HT.loose) (d := HandSHeadRun.topDef (OpenLaw.row PySem.Challenge.rw_seek_k05_whole_texts_read).prog 57) (kwd := []) HT.ob_eq
    (by kernel_rfl) (fun s => by kernel_rfl) HT.run (by kernel_rfl) (by kernel_rfl) (by kernel_rfl) (by rfl) (by first | assumption | decide +kernel) (by decide +kernel) ⟨rfl, rfl, rfl, rfl, rfl, by decide +kernel⟩ ?hw ?hc
  case hw => w_witness2
  case hc =>
    refine L2.walk_ofE (l := PySem.Challenge.rw_seek_k05_whole_texts_read) (n := 63) (k := 230) (x := "_law_script") (CX := L2.CX0) rfl (by decide) (by kernel_rfl) ⟨rfl, by decide, by decide⟩ ?F (fun _ _ _ _ z => z)
    intro w mg fa h Y G hmg0
    obtain ⟨K, KX, c⟩ := Y
    have hmg : mg ("law" : PySem.Str) = some (.ref fa) := by
      have e : (HandSHeadRun.topDef (OpenLaw.row PySem.Challenge.rw_seek_k05_whole_texts_read).prog 57).name = ("law" : PySem.Str) := by kernel_rfl
      rw [← e]
      exact hmg0
    obtain ⟨fd, sp, hb, hs, hF⟩ := HT.facts (P := (PySem.Challenge.rw_seek_k05_whole_texts_read).prog) (w := w) KX G hmg c
    exact ⟨K, fd, sp, KX, hb, fun H a ns hl _ hS => hs H a ns hl hS, hF⟩
