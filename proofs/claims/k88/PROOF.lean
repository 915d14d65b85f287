import PyProof.Rows.All
import Wide.All
import OpenK.AllK
import Wide.FinOn
import HandS.Base
import HandS.Call
import HandS.List
import HandS.Text
import HandS.Lambda
import HandS.CallSlots
import HandS.Wide
import HandS.IsInst
import HandS.Rev
import HandS.RaiseMore
import HandS.Small
import HandS.Style
import HandS.TupAny
import HandS.Iter
import HandS.Comp
import HandS.Dict
import HandS.Conv
import HandS.DictTup
import HandS.New
import HandS.Defaults
import KE.KExcSuper
import HandS.ExcInit
import HandS.ExcSuper
import KE.KExcIs
import HandS.ExcIs
import HandS.ExcField
import PyProof.NeKinds
import HandS.HeadHook4
import HandS.EndTab
import HandS.Words
import KE.KStateDown
import HandS.Head0
import HandS.Head1
import HandS.Head2
import HandS.HeadEnd
import PyProof.StrLawsRepr
import KE.IntTextLaws
import PyProof.StrLawsIdx
import PyProof.Rows.StrClip
import KE.KIntText
import PyProof.ReprLen
import PySem.Challenge.RW_wheelbook_k88_values_written
set_option Elab.async false
set_option linter.all false
set_option maxRecDepth 100000
/-! the values, the small language and its evaluator -/
namespace Ev
open PySem L2

/-- a value without a heap: lst, dct: frozen ones; ref: an object of the store -/
inductive PV where
  | non | bl (b : Bool) | int (i : Int) | str (s : Str)
  | tup (l : List PV) | lst (l : List PV)
  | dct (ks : List Key) (l : List PV)
  | err (c : Nat) (fs : List Str) (l : List PV)
  | ref (n : Nat)

/-- an object of the store -/
inductive SO where
  | lst (l : List PV) | dct (l : List (Key × PV))

abbrev Sl := List (Option PV)
abbrev Sto := List SO

/-- what an evaluation comes to -/
inductive Rs (α : Type) where
  | ok (a : α) (S : Sto)
  | ex (c : Nat) (fs : List PV) (S : Sto)
  | bad
def Rs.bind {α β : Type} (r : Rs α) (f : α → Sto → Rs β) : Rs β := match r with
  | .ok a S => f a S
  | .ex c fs S => .ex c fs S
  | .bad => .bad
def ofO {α : Type} (o : Option α) (S : Sto) : Rs α := match o with
  | some a => .ok a S
  | none => .bad

inductive Ty where
  | str | int | bool | tup | lst | dct
  deriving DecidableEq
inductive BOp where
  | add | sub | mul | fdiv | mod | pow
  deriving DecidableEq
inductive COp where
  | eq | ne | lt | le | gt | ge | isN | notN | isin | notin
  deriving DecidableEq
inductive Blt where
  | len | all | any | abs | int | str | tuple | min | max | repr
  deriving DecidableEq
inductive Mth where
  | append | pop | popAt | extend | join
  deriving DecidableEq
/-- a target: one name; several -/
inductive Tg where
  | one (i : Nat) | many (l : List Nat)

mutual
inductive IE where
  | never
  | var (i : Nat)
  | cst (v : PV)
  | gl (k : Nat)
  | tup (es : IEs)
  | lst (m : Bool) (es : IEs)
  | dict (ks : List Str) (es : IEs)
  | bin (op : BOp) (a b : IE)
  | not (a : IE)
  | band (a b : IE) | bor (a b : IE)
  | ife (c a b : IE)
  | cmp (op : COp) (a b : IE)
  | chain (o1 o2 : COp) (a b c : IE)
  | call (f : Nat) (es : IEs)
  | bi (b : Blt) (e : IE)
  | bi2 (b : Blt) (e f : IE)
  | isi (e : IE) (t : Ty)
  | isis (e : IE) (ts : List Ty)
  | idx (a b : IE)
  | lof (m : Bool) (e : IE)
  | slc (m : Bool) (a : IE) (lo hi : IO)
  | meth (k : Mth) (o : IE) (es : IEs)
  | lc (m : Bool) (own : List Nat) (tg : Tg) (src : Src) (ifs : IO) (elt : IE)
  | word (e : IE)
inductive IEs where
  | nil | cons (e : IE) (es : IEs)
inductive IO where
  | none | some (e : IE)
inductive Src where
  | seq (e : IE) | rng (e : IE) | rng2 (a b : IE) | enr (e : IE)
end
mutual
inductive IS where
  | never
  | asg (i : Nat) (e : IE)
  | par (is : List Nat) (es : IEs)
  | unp (is : List Nat) (e : IE)
  | sub (o i e : IE)
  | aug (i : Nat) (op : BOp) (e : IE)
  | expr (e : IE)
  | ret (e : IE)
  | ifs (c : IE) (a b : ISs)
  | whl (c : IE) (b : ISs)
  | for (tg : Tg) (src : Src) (b : ISs)
  | raise (c : Nat) (es : IEs)
  | pass | cont
inductive ISs where
  | nil | cons (s : IS) (r : ISs)
end

/-! ### equality of values, decided -/
mutual
def bqV : PV → PV → Bool
  | .non, .non => true
  | .bl a, .bl b => a == b
  | .int a, .int b => a == b
  | .str a, .str b => a == b
  | .tup a, .tup b => bqs a b
  | .lst a, .lst b => bqs a b
  | .dct k a, .dct l b => decide (k = l) && bqs a b
  | .err c k a, .err d l b => decide (c = d ∧ k = l) && bqs a b
  | .ref a, .ref b => a == b
  | _, _ => false
def bqs : List PV → List PV → Bool
  | [], [] => true
  | a :: r, b :: s => bqV a b && bqs r s
  | _, _ => false
end
mutual
theorem bqV_eq : ∀ a b : PV, bqV a b = true → a = b
  | .non, b, h => by cases b <;> simp_all [bqV]
  | .bl a, b, h => by cases b <;> simp_all [bqV]
  | .int a, b, h => by cases b <;> simp_all [bqV]
  | .str a, b, h => by cases b <;> simp_all [bqV]
  | .ref a, b, h => by cases b <;> simp_all [bqV]
  | .tup a, b, h => by
    cases b with
    | tup b => rw [bqs_eq a b (by simpa [bqV] using h)]
    | _ => simp [bqV] at h
  | .lst a, b, h => by
    cases b with
    | lst b => rw [bqs_eq a b (by simpa [bqV] using h)]
    | _ => simp [bqV] at h
  | .dct k a, b, h => by
    cases b with
    | dct l b =>
      have h2 : k = l ∧ bqs a b = true := by simpa [bqV] using h
      rw [h2.1, bqs_eq a b h2.2]
    | _ => simp [bqV] at h
  | .err c k a, b, h => by
    cases b with
    | err d l b =>
      have h2 : (c = d ∧ k = l) ∧ bqs a b = true := by simpa [bqV] using h
      rw [h2.1.1, h2.1.2, bqs_eq a b h2.2]
    | _ => simp [bqV] at h
theorem bqs_eq : ∀ a b : List PV, bqs a b = true → a = b
  | [], b, h => by cases b <;> simp_all [bqs]
  | x :: r, b, h => by
    cases b with
    | nil => simp [bqs] at h
    | cons y s =>
      have h2 : bqV x y = true ∧ bqs r s = true := by simpa [bqs] using h
      rw [bqV_eq x y h2.1, bqs_eq r s h2.2]
end
mutual
theorem bqV_self : ∀ a : PV, bqV a a = true
  | .non => by simp [bqV]
  | .bl a => by simp [bqV]
  | .int a => by simp [bqV]
  | .str a => by simp [bqV]
  | .ref a => by simp [bqV]
  | .tup a => by simpa [bqV] using bqs_self a
  | .lst a => by simpa [bqV] using bqs_self a
  | .dct k a => by simpa [bqV] using bqs_self a
  | .err c k a => by simpa [bqV] using bqs_self a
theorem bqs_self : ∀ a : List PV, bqs a a = true
  | [] => by simp [bqs]
  | x :: r => by simp [bqs, bqV_self x, bqs_self r]
end

/-! ### values -/
mutual
def noRef : PV → Bool
  | .tup l => noRefs l
  | .lst l => noRefs l
  | .dct _ l => noRefs l
  | .err _ _ l => noRefs l
  | .ref _ => false
  | .non => true | .bl _ => true | .int _ => true | .str _ => true
def noRefs : List PV → Bool
  | [] => true
  | v :: r => noRef v && noRefs r
end
/-! plain: no list, no dict, no object in it -/
mutual
def flat : PV → Bool
  | .tup l => flats l
  | .non => true | .bl _ => true | .int _ => true | .str _ => true
  | .lst _ => false | .dct _ _ => false | .err _ _ _ => false | .ref _ => false
def flats : List PV → Bool
  | [] => true
  | v :: r => flat v && flats r
end
def allO (f : PV → Option PV) : List PV → Option (List PV)
  | [] => some []
  | x :: r => match f x, allO f r with
    | some y, some s => some (y :: s)
    | _, _ => none
/-- the same with the store's objects frozen; n: how deep -/
def frz (S : Sto) : Nat → PV → Option PV
  | 0, _ => none
  | n + 1, v => if noRef v then some v else match v with
    | .tup l => (allO (frz S n) l).map .tup
    | .lst l => (allO (frz S n) l).map .lst
    | .dct ks l => (allO (frz S n) l).map (.dct ks)
    | .ref k => match S[k]? with
      | some (.lst l) => (allO (frz S n) l).map .lst
      | some (.dct l) => (allO (frz S n) (l.map (·.2))).map (.dct (l.map (·.1)))
      | none => none
    | .err _ _ _ => none
    | .non => some .non
    | .bl b => some (.bl b)
    | .int i => some (.int i)
    | .str s => some (.str s)
def deepMost : Nat := 70
def frzV (S : Sto) (v : PV) : Option PV := if noRef v then some v else frz S deepMost v

/-! as the data of the library -/
mutual
def toPD : PV → Option PyData
  | .non => some .none
  | .bl b => some (.bool b)
  | .int i => some (.int i)
  | .str s => some (.str s)
  | .tup l => (toPDs l).map .tuple
  | .lst l => (toPDs l).map .list
  | .dct _ _ => none | .err _ _ _ => none | .ref _ => none
def toPDs : List PV → Option (List PyData)
  | [] => some []
  | v :: r => match toPD v, toPDs r with
    | some d, some ds => some (d :: ds)
    | _, _ => none
end

/-! ### what operators do -/
/-- the items of a list, a tuple -/
def itemsOf (S : Sto) : PV → Option (List PV)
  | .tup l => some l
  | .lst l => some l
  | .ref n => match S[n]? with
    | some (.lst l) => some l
    | _ => none
  | _ => none
/-- the items of a list -/
def listOf (S : Sto) : PV → Option (List PV)
  | .lst l => some l
  | .ref n => match S[n]? with
    | some (.lst l) => some l
    | _ => none
  | _ => none
def allInts : List PV → Option (List Int)
  | [] => some []
  | .int i :: r => (allInts r).map (i :: ·)
  | _ :: _ => none
def allBls : List PV → Option (List Bool)
  | [] => some []
  | .bl i :: r => (allBls r).map (i :: ·)
  | _ :: _ => none
def allStrs : List PV → Option (List Str)
  | [] => some []
  | .str i :: r => (allStrs r).map (i :: ·)
  | _ :: _ => none
def mulFits (i j : Int) : Bool := decide (i.natAbs.log2 + j.natAbs.log2 < 1000000)
def mulStr (x : Str) (n : Int) : Option Str := if 0 ≤ n ∧ n ≤ 1000 ∧ x.length ≤ 1000 then some (Txt.mul x n) else none
def binV (op : BOp) (x y : PV) : Option PV := match op, x, y with
  | .add, .int i, .int j => some (.int (i + j))
  | .add, .str i, .str j => if i.length + j.length ≤ 16000000 then some (.str (i ++ j)) else none
  | .add, .tup l, .tup r => if l ≠ [] ∧ r ≠ [] ∧ l.length + r.length ≤ 16000000 then some (.tup (l ++ r)) else none
  | .sub, .int i, .int j => some (.int (i - j))
  | .mul, .int i, .int j => if mulFits i j then some (.int (i * j)) else none
  | .mul, .str x, .int n => (mulStr x n).map .str
  | .fdiv, .int i, .int j => if 0 < j ∧ j.natAbs.log2 < 9000 then some (.int (i / j)) else none
  | .mod, .int i, .int j => if 0 < j then some (.int (i % j)) else none
  | .pow, .int i, .int j => if 0 ≤ j ∧ j ≤ 1000000 ∧ i.natAbs < 2 ^ 64 then some (.int (i ^ j.toNat)) else none
  | _, _, _ => none
def eqPD (a b : PyData) : Option Bool := if a.canLay0 = true ∧ b.canLay0 = true ∧ min a.depth b.depth ≤ 100 then some (PyData.eqv a b) else none
def eqV2 (S : Sto) (x y : PV) : Option Bool := match (frzV S x).bind toPD, (frzV S y).bind toPD with
  | some a, some b => eqPD a b
  | _, _ => none
def flatB : PV → Bool
  | .non => true | .bl _ => true | .int _ => true | .str _ => true
  | _ => false
def inV2 (S : Sto) (x y : PV) : Option Bool := match x, y with
  | .str i, .str j => if i.length = 1 then some (decide (i.cps.getD 0 0 ∈ j.cps.toList)) else none
  | _, _ => none
def isNonP : PV → Bool
  | .non => true
  | _ => false
def cmpV (S : Sto) (op : COp) (x y : PV) : Option Bool := match op with
  | .eq => eqV2 S x y
  | .ne => (eqV2 S x y).map (!·)
  | .isN => match y with
    | .non => some (isNonP x)
    | _ => none
  | .notN => match y with
    | .non => some (!isNonP x)
    | _ => none
  | .isin => inV2 S x y
  | .notin => (inV2 S x y).map (!·)
  | .lt => match x, y with
    | .int i, .int j => some (decide (i < j))
    | _, _ => none
  | .le => match x, y with
    | .int i, .int j => some (decide (i ≤ j))
    | _, _ => none
  | .gt => match x, y with
    | .int i, .int j => some (decide (j < i))
    | _, _ => none
  | .ge => match x, y with
    | .int i, .int j => some (decide (j ≤ i))
    | _, _ => none
def isTy (S : Sto) (t : Ty) : PV → Bool
  | .bl _ => t = .bool ∨ t = .int
  | .int _ => t = .int
  | .str _ => t = .str
  | .tup _ => t = .tup
  | .lst _ => t = .lst
  | .dct _ _ => t = .dct
  | .ref n => match S[n]? with
    | some (.lst _) => t = .lst
    | some (.dct _) => t = .dct
    | none => false
  | _ => false
/-- values that isinstance is asked of -/
def tyOk (S : Sto) : PV → Bool
  | .err _ _ _ => false
  | .ref n => (S[n]?).isSome
  | _ => true
def biV (S : Sto) (b : Blt) (x : PV) : Option PV := match b with
  | .len => match x with
    | .str s => if s.length ≤ 16000000 then some (.int s.length) else none
    | _ => (itemsOf S x).map fun l => .int l.length
  | .abs => match x with
    | .int i => some (.int (if i < 0 then -i else i))
    | _ => none
  | .int => match x with
    | .int i => some (.int i)
    | .bl k => some (.int (if k then 1 else 0))
    | .str s => if s.length ≤ 600 then (PySem.intText? s).map .int else none
    | _ => none
  | .str => match x with
    | .int i => if i.natAbs.log2 < 1900 then some (.str (toString i)) else none
    | .str s => some (.str s)
    | _ => none
  | .tuple => match x with
    | .tup l => some (.tup l)
    | _ => (itemsOf S x).map .tup
  | .all => ((listOf S x).bind allBls).map fun l => .bl (l.all id)
  | .any => ((listOf S x).bind allBls).map fun l => .bl (l.any id)
  | .repr => match (frzV S x).bind toPD with
    | some d => if d.showable = true ∧ d.hasDict = false ∧ d.depth ≤ 100 ∧ d.shown.length ≤ 16000000 then some (.str d.shown) else none
    | none => none
  | _ => none
def biV2 (b : Blt) (x y : PV) : Option PV := match b, x, y with
  | .min, .int i, .int j => some (.int (if j < i then j else i))
  | .max, .int i, .int j => some (.int (if j > i then j else i))
  | _, _, _ => none
/-- the item at a place -/
def atP (l : List PV) (i : Int) : Option PV := if 0 ≤ i then l[i.toNat]? else if -(l.length : Int) ≤ i then l[(i + l.length).toNat]? else none
def keyOf : PV → Option Key
  | .int i => some (.inl i)
  | .str s => some (.inr s)
  | _ => none
def lookK (l : List (Key × PV)) (k : Key) : Option PV := (l.find? fun p => decide (p.1 = k)).map (·.2)
def putK (l : List (Key × PV)) (k : Key) (v : PV) : List (Key × PV) := if (l.any fun p => decide (p.1 = k)) then l.map fun p => if p.1 = k then (k, v) else p else l ++ [(k, v)]
def idxV (S : Sto) (x y : PV) : Option PV := match x with
  | .str s => match y with
    | .int i => if s.length ≤ 16000000 ∧ 0 ≤ i then (s.cps[i.toNat]?).map fun c => .str ⟨#[c]⟩ else none
    | _ => none
  | .dct ks l => (keyOf y).bind (lookK (ks.zip l))
  | .ref n => match S[n]? with
    | some (.lst l) => match y with
      | .int i => atP l i
      | _ => none
    | some (.dct l) => (keyOf y).bind (lookK l)
    | none => none
  | .tup l => match y with
    | .int i => atP l i
    | _ => none
  | .lst l => match y with
    | .int i => atP l i
    | _ => none
  | _ => none
def nonI : PV → Option Int
  | .int i => some i
  | _ => none
/-- a new list: frozen, or an object of the store -/
def newL (m : Bool) (l : List PV) (S : Sto) : Rs PV := if m then .ok (.ref S.length) (S ++ [.lst l]) else .ok (.lst l) S
def cutP (l : List PV) (lo hi : Option Int) : List PV := (l.drop (HT.sIx l.length 0 lo)).take (HT.sIx l.length l.length hi - HT.sIx l.length 0 lo)
/-- x[lo:hi] -/
def slcR (m : Bool) (S : Sto) (x : PV) (lo hi : Option Int) : Rs PV := match x with
  | .str s => if s.length ≤ 16000000 then .ok (.str (Txt.slice s lo hi)) S else .bad
  | .tup l => .ok (.tup (cutP l lo hi)) S
  | _ => match listOf S x with
    | some l => newL m (cutP l lo hi) S
    | none => .bad
/-- what stands ahead of the point is of the method's kind -/
def mTy (S : Sto) (k : Mth) (x : PV) : Bool := match k with
  | .join => match x with
    | .str _ => true
    | _ => false
  | _ => (listOf S x).isSome
def methV (k : Mth) (o : PV) (vs : List PV) (S : Sto) : Rs PV := match k, o, vs with
  | .append, .ref n, [v] => match S[n]? with
    | some (.lst l) => if l.length < 16000000 then .ok .non (S.set n (.lst (l ++ [v]))) else .bad
    | _ => .bad
  | .extend, .ref n, [v] => match S[n]? with
    | some (.lst l) => match v with
      | .tup r => if l.length + r.length ≤ 16000000 then .ok .non (S.set n (.lst (l ++ r))) else .bad
      | .ref m => (match S[m]? with
        | some (.lst r) => if l.length + r.length ≤ 16000000 then .ok .non (S.set n (.lst (l ++ r))) else .bad
        | _ => .bad)
      | _ => .bad
    | _ => .bad
  | .pop, .ref n, [] => match S[n]? with
    | some (.lst l) => match l[l.length - 1]? with
      | some y => .ok y (S.set n (.lst l.dropLast))
      | none => .bad
    | _ => .bad
  | .popAt, .ref n, [.int i] => match S[n]? with
    | some (.lst l) => if 0 ≤ i ∧ i < 2 ^ 63 then (match l[i.toNat]? with
      | some y => .ok y (S.set n (.lst (l.eraseIdx i.toNat)))
      | none => .bad) else .bad
    | _ => .bad
  | .join, .str z, [v] => match (itemsOf S v).bind allStrs with
    | some ys => if (ys.map (·.length)).sum + ys.length * z.length ≤ 16777216 then .ok (.str (Txt.join z ys)) S else .bad
    | none => .bad
  | _, _, _ => .bad

/-! ### the evaluator -/
/-- what the walk of a text of a program leans on: calls of defs; constants of the module; the word of an error -/
structure Ctx where
  call : Nat → List PV → Sto → Rs PV
  gls : List PV
  word : Nat → List PV → Option PV
  mkE : Nat → List PV → Option (List PV)
  whiles : Nat
def setTg : Tg → PV → Sl → Option Sl
  | .one i, v, σ => some (σ.set i (some v))
  | .many is, v, σ => match v with
    | .tup l => if l.length = is.length then some ((is.zip l).foldl (fun σ p => σ.set p.1 (some p.2)) σ) else none
    | _ => none
def wipeP (σ : Sl) : List Nat → Sl
  | [] => σ
  | v :: vs => (wipeP σ vs).set v none
/-- what a loop walks: its items, the object that must stay as it is -/
abbrev Walk := List PV × Option Nat
def stays (S : Sto) (w : Walk) : Bool := match w.2 with
  | none => true
  | some n => match S[n]? with
    | some (.lst l) => bqs l w.1
    | _ => false
def srcOf (S : Sto) : PV → Option (List PV)
  | .str s => some (s.cps.toList.map fun c => .str ⟨#[c]⟩)
  | v => itemsOf S v
def rngItems (a b : Int) : List PV := (List.range (b - a).toNat).map fun (k : Nat) => .int (a + k)
def rngOk (a b : Int) : Bool := decide (-(2 ^ 62) ≤ a ∧ a < 2 ^ 62 ∧ -(2 ^ 62) ≤ b ∧ b < 2 ^ 62)
def enum (l : List PV) : List PV := l.zipIdx.map fun p => .tup [.int p.2, p.1]
/-- the turns of a comprehension -/
def lcGo (ok : Sto → Bool) (elt : Sl → Sto → Rs PV) (test : Sl → Sto → Rs Bool) (tg : Tg) (σ : Sl) : List PV → Sto → List PV → Rs (List PV)
  | [], S, acc => if ok S then .ok acc.reverse S else .bad
  | x :: r, S, acc => if !ok S then .bad else match setTg tg x σ with
    | none => .bad
    | some σ' => match test σ' S with
      | .ok b S1 => if b then (match elt σ' S1 with
        | .ok v S2 => if acc.length < 16000000 then lcGo ok elt test tg σ r S2 (v :: acc) else .bad
        | _ => .bad) else lcGo ok elt test tg σ r S1 acc
      | _ => .bad
def asB (r : Rs PV) : Rs Bool := r.bind fun v S => match v with
  | .bl b => .ok b S
  | _ => .bad

section
variable (C : Ctx)
mutual
def evE : IE → Sl → Sto → Rs PV
  | .never, _, _ => .bad
  | .var i, σ, S => match σ[i]? with
    | some (some v) => .ok v S
    | _ => .bad
  | .cst v, _, S => .ok v S
  | .gl k, _, S => ofO C.gls[k]? S
  | .tup es, σ, S => (evEs es σ S).bind fun vs S1 => .ok (.tup vs) S1
  | .lst m es, σ, S => (evEs es σ S).bind fun vs S1 => newL m vs S1
  | .dict ks es, σ, S => (evEs es σ S).bind fun vs S1 => if vs.length = ks.length ∧ ks.length ≤ 15 ∧ ks.Nodup then .ok (.ref S1.length) (S1 ++ [.dct ((ks.map Sum.inr).zip vs)]) else .bad
  | .bin op a b, σ, S => (evE a σ S).bind fun x S1 => (evE b σ S1).bind fun y S2 => ofO (binV op x y) S2
  | .not a, σ, S => (asB (evE a σ S)).bind fun b S1 => .ok (.bl !b) S1
  | .band a b, σ, S => (asB (evE a σ S)).bind fun k S1 => if k then evE b σ S1 else .ok (.bl false) S1
  | .bor a b, σ, S => (asB (evE a σ S)).bind fun k S1 => if k then .ok (.bl true) S1 else evE b σ S1
  | .ife c a b, σ, S => (asB (evE c σ S)).bind fun k S1 => if k then evE a σ S1 else evE b σ S1
  | .cmp op a b, σ, S => (evE a σ S).bind fun x S1 => (evE b σ S1).bind fun y S2 => ofO ((cmpV S2 op x y).map .bl) S2
  | .chain o1 o2 a b c, σ, S => (evE a σ S).bind fun x S1 => (evE b σ S1).bind fun y S2 => match cmpV S2 o1 x y with
    | none => .bad
    | some false => .ok (.bl false) S2
    | some true => (evE c σ S2).bind fun z S3 => ofO ((cmpV S3 o2 y z).map .bl) S3
  | .call f es, σ, S => (evEs es σ S).bind fun vs S1 => C.call f vs S1
  | .bi b e, σ, S => (evE e σ S).bind fun x S1 => ofO (biV S1 b x) S1
  | .bi2 b e f, σ, S => (evE e σ S).bind fun x S1 => (evE f σ S1).bind fun y S2 => ofO (biV2 b x y) S2
  | .isi e t, σ, S => (evE e σ S).bind fun x S1 => if tyOk S1 x then .ok (.bl (isTy S1 t x)) S1 else .bad
  | .isis e ts, σ, S => (evE e σ S).bind fun x S1 => if tyOk S1 x then .ok (.bl (ts.any fun t => isTy S1 t x)) S1 else .bad
  | .idx a b, σ, S => (evE a σ S).bind fun x S1 => (evE b σ S1).bind fun y S2 => ofO (idxV S2 x y) S2
  | .lof m e, σ, S => (evE e σ S).bind fun x S1 => match itemsOf S1 x with
    | some l => newL m l S1
    | none => .bad
  | .slc m a lo hi, σ, S => (evE a σ S).bind fun x S1 => (evO lo σ S1).bind fun l S2 => (evO hi σ S2).bind fun h S3 => slcR m S3 x l h
  | .meth k o es, σ, S => (evE o σ S).bind fun x S1 => if mTy S1 k x then (evEs es σ S1).bind fun vs S2 => methV k x vs S2 else .bad
  | .lc m own tg src ifs elt, σ, S => (evSrc src σ S).bind fun w S1 =>
      (lcGo (fun S' => stays S' w) (fun σ' S' => evE elt σ' S') (fun σ' S' => evIf ifs σ' S') tg (wipeP σ own) w.1 S1 []).bind fun vs S2 => newL m vs S2
  | .word e, σ, S => match evE e σ S with
    | .ok v S1 => .ok v S1
    | .ex c fs S1 => ofO (C.word c fs) S1
    | .bad => .bad
def evEs : IEs → Sl → Sto → Rs (List PV)
  | .nil, _, S => .ok [] S
  | .cons e es, σ, S => (evE e σ S).bind fun v S1 => (evEs es σ S1).bind fun vs S2 => .ok (v :: vs) S2
/-- a part of a slice -/
def evO : IO → Sl → Sto → Rs (Option Int)
  | .none, _, S => .ok none S
  | .some e, σ, S => (evE e σ S).bind fun v S1 => match v with
    | .int i => .ok (some i) S1
    | _ => .bad
def evIf : IO → Sl → Sto → Rs Bool
  | .none, _, S => .ok true S
  | .some e, σ, S => asB (evE e σ S)
def evSrc : Src → Sl → Sto → Rs Walk
  | .seq e, σ, S => (evE e σ S).bind fun v S1 => match srcOf S1 v with
    | some l => .ok (l, match v with | .ref n => some n | _ => none) S1
    | none => .bad
  | .rng e, σ, S => (evE e σ S).bind fun v S1 => match v with
    | .int i => if rngOk 0 i then .ok (rngItems 0 i, none) S1 else .bad
    | _ => .bad
  | .rng2 a b, σ, S => (evE a σ S).bind fun x S1 => (evE b σ S1).bind fun y S2 => match x, y with
    | .int i, .int j => if rngOk i j then .ok (rngItems i j, none) S2 else .bad
    | _, _ => .bad
  | .enr e, σ, S => (evE e σ S).bind fun v S1 => match v with
    | .tup l => .ok (enum l.reverse, none) S1
    | _ => .bad
end
end
/-! ### statements -/
/-- how a block ends -/
inductive Out where
  | nx (σ : Sl) | rt (v : PV) | ct (σ : Sl)
/-- the turns of a for -/
def forGo (ok : Sto → Bool) (body : Sl → Sto → Rs Out) (tg : Tg) : List PV → Sl → Sto → Rs Out
  | [], σ, S => if ok S then .ok (.nx σ) S else .bad
  | x :: r, σ, S => if !ok S then .bad else match setTg tg x σ with
    | none => .bad
    | some σ' => match body σ' S with
      | .ok (.nx σ2) S2 => forGo ok body tg r σ2 S2
      | .ok (.ct σ2) S2 => forGo ok body tg r σ2 S2
      | o => o
/-- the turns of a while -/
def whlGo (test : Sl → Sto → Rs Bool) (body : Sl → Sto → Rs Out) : Nat → Sl → Sto → Rs Out
  | 0, _, _ => .bad
  | n + 1, σ, S => (test σ S).bind fun b S1 => if b then (match body σ S1 with
    | .ok (.nx σ2) S2 => whlGo test body n σ2 S2
    | .ok (.ct σ2) S2 => whlGo test body n σ2 S2
    | o => o) else .ok (.nx σ) S1
def setMany : List Nat → List PV → Sl → Sl
  | i :: is, v :: vs, σ => setMany is vs (σ.set i (some v))
  | _, _, σ => σ
def subV (o i v : PV) (S : Sto) : Option Sto := match o with
  | .ref n => match S[n]? with
    | some (.dct l) => (keyOf i).bind fun k => if l.length < 16000000 then some (S.set n (.dct (putK l k v))) else none
    | _ => none
  | _ => none
section
variable (C : Ctx)
mutual
def evS : IS → Sl → Sto → Rs Out
  | .never, _, _ => .bad
  | .asg i e, σ, S => (evE C e σ S).bind fun v S1 => .ok (.nx (σ.set i (some v))) S1
  | .par is es, σ, S => (evEs C es σ S).bind fun vs S1 => if vs.length = is.length then .ok (.nx (setMany is vs σ)) S1 else .bad
  | .unp is e, σ, S => (evE C e σ S).bind fun v S1 => match setTg (.many is) v σ with
    | some σ' => .ok (.nx σ') S1
    | none => .bad
  | .sub o i e, σ, S => (evE C e σ S).bind fun v S1 => (evE C o σ S1).bind fun x S2 => (evE C i σ S2).bind fun k S3 => match subV x k v S3 with
    | some S4 => .ok (.nx σ) S4
    | none => .bad
  | .aug i op e, σ, S => match σ[i]? with
    | some (some x) => (evE C e σ S).bind fun y S1 => match op, x, y with
      | .add, .int a, .int b => .ok (.nx (σ.set i (some (.int (a + b))))) S1
      | .sub, .int a, .int b => .ok (.nx (σ.set i (some (.int (a - b))))) S1
      | _, _, _ => .bad
    | _ => .bad
  | .expr e, σ, S => (evE C e σ S).bind fun _ S1 => .ok (.nx σ) S1
  | .ret e, σ, S => (evE C e σ S).bind fun v S1 => .ok (.rt v) S1
  | .ifs c a b, σ, S => (asB (evE C c σ S)).bind fun k S1 => if k then evSs a σ S1 else evSs b σ S1
  | .whl c b, σ, S => whlGo (fun σ' S' => asB (evE C c σ' S')) (fun σ' S' => evSs b σ' S') C.whiles σ S
  | .for tg src b, σ, S => (evSrc C src σ S).bind fun w S1 => forGo (fun S' => stays S' w) (fun σ' S' => evSs b σ' S') tg w.1 σ S1
  | .raise c es, σ, S => (evEs C es σ S).bind fun vs S1 => match C.mkE c vs with
    | some fs => .ex c fs S1
    | none => .bad
  | .pass, σ, S => .ok (.nx σ) S
  | .cont, σ, S => .ok (.ct σ) S
def evSs : ISs → Sl → Sto → Rs Out
  | .nil, σ, S => .ok (.nx σ) S
  | .cons s r, σ, S => match evS s σ S with
    | .ok (.nx σ1) S1 => evSs r σ1 S1
    | o => o
end
end

/-! ### defs -/
structure FnD where
  np : Nat
  ns : Nat
  pure : Bool
  body : ISs
def runF (C : Ctx) (d : FnD) (vs : List PV) (S : Sto) : Rs PV := if vs.length = d.np then (match evSs C d.body (vs.map some ++ List.replicate (d.ns - d.np) none) S with
  | .ok (.rt v) S1 => .ok v S1
  | .ok (.nx _) S1 => .ok .non S1
  | .ex c fs S1 => .ex c fs S1
  | _ => .bad) else .bad
/-- a pure def: over an empty store, frozen values in and out -/
def pureF (C : Ctx) (d : FnD) (vs : List PV) (S : Sto) : Rs PV := match allO (frzV S) vs with
  | none => .bad
  | some ws => match runF C d ws [] with
    | .ok v S1 => (match frzV S1 v with
      | some u => if noRefs vs || flat u then .ok u S else .bad
      | none => .bad)
    | .ex c fs S1 => if flats fs then .ex c fs S else .bad
    | .bad => .bad
/-- the program: its defs; constants; words of errors; fields of errors made -/
structure Pg where
  fns : List FnD
  gls : List PV
  word : Nat → List PV → Option PV
  mkE : Nat → List PV → Option (List PV)
  whiles : Nat
def ctxOf (P : Pg) (call : Nat → List PV → Sto → Rs PV) : Ctx := ⟨call, P.gls, P.word, P.mkE, P.whiles⟩
/-- calls, so many in one another -/
def evF (P : Pg) : Nat → Nat → List PV → Sto → Rs PV
  | 0, _, _, _ => .bad
  | n + 1, f, vs, S => match P.fns[f]? with
    | some d => if d.pure then pureF (ctxOf P (evF P n)) d vs S else runF (ctxOf P (evF P n)) d vs S
    | none => .bad

example (C : Ctx) (σ : Sl) (S : Sto) : evE C .never σ S = .bad := rfl
example (C : Ctx) (σ : Sl) (S : Sto) : evS C .pass σ S = .ok (.nx σ) S := rfl
example : bqs [.int 1] [.int 1] = true := rfl
example : frz [] 5 (.tup [.int 1]) = some (.tup [.int 1]) := rfl
end Ev

set_option Elab.async false
set_option linter.all false
set_option maxRecDepth 100000
/-! the values of the evaluator beside the abstract heap -/
namespace Ev
open PySem PySem.Spec PyProof.Rows L2

/-- what stays fixed: the written part, the tables of code objects -/
structure Fx where
  K : PySem.W.Frag
  T : List (Addr × Str)

mutual
inductive RV (Z : Fx) (F M : List Addr) (H : Hp) : PV → V → Prop
  | non : RV Z F M H .non .non
  | bl (b : Bool) : RV Z F M H (.bl b) (.bl b)
  | int (i : Int) : RV Z F M H (.int i) (.int i)
  | str (x : Str) : RV Z F M H (.str x) (.str x)
  | tup {a : Addr} {l : List PV} {xs : List V} : SqT Z.K H a xs → RVs Z F M H l xs → RV Z F M H (.tup l) (.ref a)
  | lst {a : Addr} {l : List PV} {xs : List V} : Rd H a (.lst xs) → a ∉ F → a ∉ M → RVs Z F M H l xs → RV Z F M H (.lst l) (.ref a)
  | dct {a : Addr} {ks : List Key} {l : List PV} {kvs : List (Key × V)} : H a = some (.dK kvs) → a ∉ F → a ∉ M → kvs.map (·.1) = ks → RVs Z F M H l (kvs.map (·.2)) → RV Z F M H (.dct ks l) (.ref a)
  | ref {n : Nat} {a : Addr} : M[n]? = some a → RV Z F M H (.ref n) (.ref a)
inductive RVs (Z : Fx) (F M : List Addr) (H : Hp) : List PV → List V → Prop
  | nil : RVs Z F M H [] []
  | cons {p : PV} {v : V} {ps : List PV} {vs : List V} : RV Z F M H p v → RVs Z F M H ps vs → RVs Z F M H (p :: ps) (v :: vs)
end

/-- an object of the store, at its address -/
def ObR (Z : Fx) (F M : List Addr) (H : Hp) (a : Addr) : SO → Prop
  | .lst l => ∃ xs, H a = some (.lst xs) ∧ RVs Z F M H l xs
  | .dct l => ∃ kvs, H a = some (.dK kvs) ∧ kvs.map (·.1) = l.map (·.1) ∧ RVs Z F M H (l.map (·.2)) (kvs.map (·.2))

/-- the store stands in the heap: M its addresses, F those of others that are not to be taken for frozen -/
structure Rel (Z : Fx) (F M : List Addr) (S : Sto) (H : Hp) : Prop where
  len : M.length = S.length
  nd : M.Nodup
  ob : ∀ (n : Nat) (a : Addr) (o : SO), M[n]? = some a → S[n]? = some o → ObR Z F M H a o
  dis : ∀ a ∈ F, a ∉ M
  there : ∀ a ∈ F, ∃ o, H a = some o ∧ ∀ ps, o ≠ .tbl ps
  tabs : LamX.Tabs Z.T H

/-- what stays from one heap to a later one -/
structure Ext (M : List Addr) (H : Hp) (M' : List Addr) (H' : Hp) : Prop where
  pre : ∃ N, M' = M ++ N
  new : ∀ a ∈ M', a ∈ M ∨ H a = none
  keep : ∀ a o, H a = some o → a ∉ M → (∀ ps, o ≠ .tbl ps) → H' a = some o
  tup : ∀ a xs, H a = some (.tup xs) → H' a = some (.tup xs)
  fre : ∀ a, H' a = none → H a = none

theorem Ext.refl (M : List Addr) (H : Hp) : Ext M H M H := ⟨⟨[], by simp⟩, fun _ h => .inl h, fun _ _ h _ _ => h, fun _ _ h => h, fun _ h => h⟩
theorem Ext.trans {M M1 M2 : List Addr} {H H1 H2 : Hp} (a : Ext M H M1 H1) (b : Ext M1 H1 M2 H2) : Ext M H M2 H2 := by
  obtain ⟨N1, e1⟩ := a.pre
  obtain ⟨N2, e2⟩ := b.pre
  refine ⟨⟨N1 ++ N2, by rw [e2, e1, List.append_assoc]⟩, fun c hc => ?_, fun c o h hm ht => ?_, fun c xs h => b.tup c xs (a.tup c xs h), fun c h => a.fre c (b.fre c h)⟩
  · rcases b.new c hc with h | h
    · exact a.new c h
    · exact .inr (a.fre c h)
  · refine b.keep c o (a.keep c o h hm ht) (fun hc => ?_) ht
    rcases a.new c hc with h2 | h2
    · exact hm h2
    · rw [h2] at h
      cases h

section
variable {Z : Fx} {F M M' : List Addr} {S S' : Sto} {H H' : Hp}
theorem RVs.len : ∀ {l : List PV} {xs : List V}, RVs Z F M H l xs → l.length = xs.length
  | [], _, h => by cases h; rfl
  | _ :: _, _, h => by
    cases h with
    | cons _ h2 => exact congrArg Nat.succ (RVs.len h2)
theorem RVs.get : ∀ {l : List PV} {xs : List V} {i : Nat} {p : PV}, RVs Z F M H l xs → l[i]? = some p → ∃ v, xs[i]? = some v ∧ RV Z F M H p v
  | [], _, _, _, _, e => by simp at e
  | q :: l, _, 0, p, h, e => by
    cases h with
    | cons h1 _ =>
      have e2 : q = p := by simpa using e
      subst e2
      exact ⟨_, rfl, h1⟩
  | q :: l, _, i + 1, p, h, e => by
    cases h with
    | cons _ h2 =>
      obtain ⟨v, e1, r⟩ := RVs.get h2 (i := i) (p := p) (by simpa using e)
      exact ⟨v, by simpa using e1, r⟩
theorem RVs.app : ∀ {l r : List PV} {xs ys : List V}, RVs Z F M H l xs → RVs Z F M H r ys → RVs Z F M H (l ++ r) (xs ++ ys)
  | [], _, _, _, h, g => by cases h; exact g
  | _ :: _, _, _, _, h, g => by
    cases h with
    | cons h1 h2 => exact .cons h1 (RVs.app h2 g)
theorem RVs.take : ∀ {l : List PV} {xs : List V} (n : Nat), RVs Z F M H l xs → RVs Z F M H (l.take n) (xs.take n)
  | _, _, 0, _ => by simpa using RVs.nil
  | [], _, n + 1, h => by cases h; simpa using RVs.nil
  | _ :: _, _, n + 1, h => by
    cases h with
    | cons h1 h2 => exact .cons h1 (RVs.take n h2)
theorem RVs.drop : ∀ {l : List PV} {xs : List V} (n : Nat), RVs Z F M H l xs → RVs Z F M H (l.drop n) (xs.drop n)
  | _, _, 0, h => by simpa using h
  | [], _, n + 1, h => by cases h; simpa using RVs.nil
  | _ :: _, _, n + 1, h => by
    cases h with
    | cons h1 h2 => simpa using RVs.drop n h2
theorem RVs.one {p : PV} {v : V} (h : RV Z F M H p v) : RVs Z F M H [p] [v] := .cons h .nil
theorem RVs.rev : ∀ {l : List PV} {xs : List V}, RVs Z F M H l xs → RVs Z F M H l.reverse xs.reverse
  | [], _, h => by cases h; simpa using RVs.nil
  | _ :: _, _, h => by
    cases h with
    | cons h1 h2 =>
      rw [List.reverse_cons, List.reverse_cons]
      exact (RVs.rev h2).app (.one h1)

theorem Ext.mem (x : Ext M H M' H') {a : Addr} {o : HO} (h : H a = some o) (hm : a ∉ M) : a ∉ M' := fun hc => by
  rcases x.new a hc with h2 | h2
  · exact hm h2
  · rw [h2] at h
    cases h
theorem Ext.at (x : Ext M H M' H') {n : Nat} {a : Addr} (h : M[n]? = some a) : M'[n]? = some a := by
  obtain ⟨N, e⟩ := x.pre
  rw [e, List.getElem?_append_left (List.getElem?_eq_some_iff.mp h).1]
  exact h
theorem Ext.rd (x : Ext M H M' H') {a : Addr} {u : HO} (h : Rd H a u) (hm : a ∉ M) (ht : ∀ ps, u ≠ .tbl ps) : Rd H' a u := by
  rcases h with h | ⟨o, h⟩
  · exact .inl (x.keep a u h hm ht)
  · exact .inr ⟨o, x.keep a _ h hm fun _ e => nomatch e⟩
theorem Ext.sqL (x : Ext M H M' H') {a : Addr} {xs : List V} (h : SqL Z.K H a xs) (hm : a ∉ M) : SqL Z.K H' a xs := by
  rcases h with h | h
  · exact .inl (x.rd h hm fun _ e => nomatch e)
  · exact .inr h
/-- a tuple that stands locked is no store's object -/
theorem Rel.lockOut (r : Rel Z F M S H) {a : Addr} {ob : Obj} {u : HO} (h : H a = some (.frz ob u)) : a ∉ M := fun hm => by
  obtain ⟨n, hn, e⟩ := List.mem_iff_getElem.mp hm
  have h1 : M[n]? = some a := by rw [List.getElem?_eq_getElem hn, e]
  have hs : n < S.length := by rw [← r.len]; exact hn
  have q := r.ob n a S[n] h1 (List.getElem?_eq_getElem hs)
  cases ho : S[n] with
  | lst l =>
    rw [ho] at q
    obtain ⟨xs, e1, _⟩ := q
    rw [h] at e1
    cases e1
  | dct l =>
    rw [ho] at q
    obtain ⟨kvs, e1, _⟩ := q
    rw [h] at e1
    cases e1
theorem Ext.sqT (x : Ext M H M' H') (r : Rel Z F M S H) {a : Addr} {xs : List V} (h : SqT Z.K H a xs) : SqT Z.K H' a xs := by
  rcases h with (h | ⟨o, h⟩) | h
  · exact .inl (.inl (x.tup a xs h))
  · exact .inl (.inr ⟨o, x.keep a _ h (r.lockOut h) fun _ e => nomatch e⟩)
  · exact .inr h
theorem Ext.rdM (x : Ext M H M' H') {a : Addr} {u : HO} (h : Rd H a u) (hm : a ∉ M) : a ∉ M' := by
  rcases h with h | ⟨o, h⟩
  · exact x.mem h hm
  · exact x.mem h hm
mutual
theorem RV.mono (r : Rel Z F M S H) (x : Ext M H M' H') : ∀ {p : PV} {v : V}, RV Z F M H p v → RV Z F M' H' p v
  | .non, _, h => by cases h; exact .non
  | .bl _, _, h => by cases h; exact .bl _
  | .int _, _, h => by cases h; exact .int _
  | .str _, _, h => by cases h; exact .str _
  | .tup l, _, h => by
    cases h with
    | tup h1 h2 => exact .tup (x.sqT r h1) (RVs.mono r x h2)
  | .lst l, _, h => by
    cases h with
    | lst h1 h2 h3 h4 => exact .lst (x.rd h1 h3 fun _ e => nomatch e) h2 (x.rdM h1 h3) (RVs.mono r x h4)
  | .dct ks l, _, h => by
    cases h with
    | dct h1 h2 h3 h4 h5 => exact .dct (x.keep _ _ h1 h3 fun _ e => nomatch e) h2 (x.mem h1 h3) h4 (RVs.mono r x h5)
  | .ref n, _, h => by
    cases h with
    | ref h1 => exact .ref (x.at h1)
  | .err _ _ _, _, h => by cases h
theorem RVs.mono (r : Rel Z F M S H) (x : Ext M H M' H') : ∀ {p : List PV} {v : List V}, RVs Z F M H p v → RVs Z F M' H' p v
  | [], _, h => by cases h; exact .nil
  | _ :: _, _, h => by
    cases h with
    | cons h1 h2 => exact .cons (RV.mono r x h1) (RVs.mono r x h2)
end
theorem ObR.mono (r : Rel Z F M S H) (x : Ext M H M' H') {a : Addr} {o : SO} (h : ObR Z F M H a o) (e : H' a = H a) : ObR Z F M' H' a o := by
  cases o with
  | lst l =>
    obtain ⟨xs, h1, h2⟩ := h
    exact ⟨xs, e.trans h1, RVs.mono r x h2⟩
  | dct l =>
    obtain ⟨kvs, h1, h2, h3⟩ := h
    exact ⟨kvs, e.trans h1, h2, RVs.mono r x h3⟩
theorem Rel.at (r : Rel Z F M S H) {n : Nat} {o : SO} (h : S[n]? = some o) : ∃ a, M[n]? = some a ∧ ObR Z F M H a o := by
  have hn : n < M.length := by rw [r.len]; exact (List.getElem?_eq_some_iff.mp h).1
  exact ⟨M[n], List.getElem?_eq_getElem hn, r.ob n _ o (List.getElem?_eq_getElem hn) h⟩
theorem Rel.tr (r : Rel Z F M S H) {a : Addr} (h : a ∈ M) : ∃ o, H a = some o ∧ (∀ ps, o ≠ .tbl ps) ∧ (∀ xs, o ≠ .tup xs) ∧ (∀ c q, o ≠ LamX.CodeO c q) := by
  obtain ⟨n, hn, e⟩ := List.mem_iff_getElem.mp h
  have h1 : M[n]? = some a := by rw [List.getElem?_eq_getElem hn, e]
  have hs : n < S.length := by rw [← r.len]; exact hn
  have q := r.ob n a S[n] h1 (List.getElem?_eq_getElem hs)
  cases ho : S[n] with
  | lst l =>
    rw [ho] at q
    obtain ⟨xs, e1, _⟩ := q
    exact ⟨_, e1, (fun _ e => nomatch e), (fun _ e => nomatch e), fun c q e => by unfold LamX.CodeO at e; cases e⟩
  | dct l =>
    rw [ho] at q
    obtain ⟨kvs, e1, _⟩ := q
    exact ⟨_, e1, (fun _ e => nomatch e), (fun _ e => nomatch e), fun c q e => by unfold LamX.CodeO at e; cases e⟩
/-- tables and code objects stay where a tracked list, dict is written -/
theorem tabs_upd {T : List (Addr × Str)} {a : Addr} {o : HO} (h : LamX.Tabs T H) (hn : ∀ ps, H a ≠ some (.tbl ps)) (hc : ∀ c q, H a ≠ some (LamX.CodeO c q)) : LamX.Tabs T (upd H a o) := fun p hp => by
  obtain ⟨ps, h1, h2, h3⟩ := h p hp
  have e1 : p.1 ≠ a := fun e => hn ps (e ▸ h1)
  refine ⟨ps, by rw [upd_ne e1]; exact h1, h2, fun pos cv q => ?_⟩
  obtain ⟨c, e2, e3⟩ := h3 pos cv q
  have e4 : c ≠ a := fun e => by
    rw [e] at e3
    exact hc a _ e3
  exact ⟨c, e2, by rw [upd_ne e4]; exact e3⟩
/-- a new object, not the store's -/
theorem Rel.fresh (r : Rel Z F M S H) {p : Addr} {o : HO} (hp : H p = none) : Rel Z F M S (upd H p o) ∧ Ext M H M (upd H p o) := by
  have k : ∀ a u, H a = some u → upd H p o a = some u := fun a u e => by rw [upd_ne (ne_of_none e hp)]; exact e
  have x : Ext M H M (upd H p o) := ⟨⟨[], by simp⟩, fun _ h => .inl h, fun a u e _ _ => k a u e, fun a xs e => k a _ e, fun a h => by
    by_cases e : a = p
    · rw [e]; exact hp
    · rw [upd_ne e] at h; exact h⟩
  refine ⟨⟨r.len, r.nd, fun n a u h1 h2 => (r.ob n a u h1 h2).mono r x ?_, r.dis, fun a ha => ?_, tabs_upd r.tabs (fun ps e => by rw [hp] at e; cases e) (fun c q e => by rw [hp] at e; cases e)⟩, x⟩
  · obtain ⟨u, e, _⟩ := r.tr (List.mem_of_getElem? h1)
    rw [k a u e, e]
  · obtain ⟨u, e, t⟩ := r.there a ha
    exact ⟨u, k a u e, t⟩
/-- a new object of the store -/
theorem Rel.more (r : Rel Z F M S H) {p : Addr} {o : HO} {so : SO} (hp : H p = none) (q : Ext M H (M ++ [p]) (upd H p o) → ObR Z F (M ++ [p]) (upd H p o) p so) : Rel Z F (M ++ [p]) (S ++ [so]) (upd H p o) ∧ Ext M H (M ++ [p]) (upd H p o) := by
  have hM : p ∉ M := fun h => by
    obtain ⟨u, e, _⟩ := r.tr h
    rw [hp] at e
    cases e
  have hF : p ∉ F := fun h => by
    obtain ⟨u, e, _⟩ := r.there p h
    rw [hp] at e
    cases e
  have k : ∀ a u, H a = some u → upd H p o a = some u := fun a u e => by rw [upd_ne (ne_of_none e hp)]; exact e
  have x : Ext M H (M ++ [p]) (upd H p o) := ⟨⟨[p], rfl⟩, fun a h => by
    rcases List.mem_append.mp h with h | h
    · exact .inl h
    · have e : a = p := by simpa using h
      rw [e]
      exact .inr hp, fun a u e _ _ => k a u e, fun a xs e => k a _ e, fun a h => by
    by_cases e : a = p
    · rw [e]; exact hp
    · rw [upd_ne e] at h; exact h⟩
  refine ⟨⟨by simp [r.len], ?_, fun n a u h1 h2 => ?_, fun a ha hm => ?_, fun a ha => ?_, tabs_upd r.tabs (fun ps e => by rw [hp] at e; cases e) (fun c q e => by rw [hp] at e; cases e)⟩, x⟩
  · refine List.nodup_append.mpr ⟨r.nd, by simp, fun a h b hb e => ?_⟩
    have e2 : b = p := by simpa using hb
    exact hM (by rw [← e2, ← e]; exact h)
  · by_cases hn : n < M.length
    · rw [List.getElem?_append_left hn] at h1
      rw [List.getElem?_append_left (by rw [← r.len]; exact hn)] at h2
      refine (r.ob n a u h1 h2).mono r x ?_
      obtain ⟨u', e, _⟩ := r.tr (List.mem_of_getElem? h1)
      rw [k a u' e, e]
    · have e1 : n = M.length := by
        have := (List.getElem?_eq_some_iff.mp h1).1
        simp at this
        omega
      rw [e1, List.getElem?_append_right (Nat.le_refl _), Nat.sub_self] at h1
      rw [e1, r.len, List.getElem?_append_right (Nat.le_refl _), Nat.sub_self] at h2
      have e2 : p = a := by simpa using h1
      have e3 : so = u := by simpa using h2
      rw [← e2, ← e3]
      exact q x
  · rcases List.mem_append.mp hm with h | h
    · exact r.dis a ha h
    · have e : a = p := by simpa using h
      exact hF (e ▸ ha)
  · obtain ⟨u, e, t⟩ := r.there a ha
    exact ⟨u, k a u e, t⟩
/-- an object of the store written -/
theorem Rel.put (r : Rel Z F M S H) {n : Nat} {a : Addr} {o : HO} {so : SO} (h1 : M[n]? = some a) (q : Ext M H M (upd H a o) → ObR Z F M (upd H a o) a so) : Rel Z F M (S.set n so) (upd H a o) ∧ Ext M H M (upd H a o) := by
  obtain ⟨u, e, t1, t2, t3⟩ := r.tr (List.mem_of_getElem? h1)
  have x : Ext M H M (upd H a o) := ⟨⟨[], by simp⟩, fun _ h => .inl h, fun b v e1 hb _ => by
      have nb : b ≠ a := fun z => hb (by rw [z]; exact List.mem_of_getElem? h1)
      rw [upd_ne nb]; exact e1,
    fun b xs e1 => by
      rw [upd_ne fun z => ?_]
      · exact e1
      · rw [z, e] at e1
        exact t2 xs (Option.some.inj e1), fun b h => by
    by_cases eb : b = a
    · rw [eb, upd_same] at h
      cases h
    · rw [upd_ne eb] at h; exact h⟩
  refine ⟨⟨by simp [r.len], r.nd, fun m b w h2 h3 => ?_, r.dis, fun b hb => ?_, tabs_upd r.tabs (fun ps z => by rw [e] at z; exact t1 ps (Option.some.inj z)) (fun c q z => by rw [e] at z; exact t3 c q (Option.some.inj z))⟩, x⟩
  · by_cases hm : n = m
    · subst hm
      rw [h1] at h2
      cases h2
      have hs : n < S.length := by rw [← r.len]; exact (List.getElem?_eq_some_iff.mp h1).1
      rw [List.getElem?_set_self hs] at h3
      cases h3
      exact q x
    · rw [List.getElem?_set_ne hm] at h3
      refine (r.ob m b w h2 h3).mono r x ?_
      rw [upd_ne fun z => ?_]
      subst z
      obtain ⟨i1, j1⟩ := List.getElem?_eq_some_iff.mp h1
      obtain ⟨i2, j2⟩ := List.getElem?_eq_some_iff.mp h2
      exact hm ((List.getElem_inj r.nd).mp (j1.trans j2.symm))
  · obtain ⟨v, e1, t⟩ := r.there b hb
    refine ⟨v, ?_, t⟩
    have nb : b ≠ a := fun z => r.dis b hb (by rw [z]; exact List.mem_of_getElem? h1)
    rw [upd_ne nb]
    exact e1

/-! ### slots -/
/-- what the evaluator knows of a slot stands there -/
structure SlR (Z : Fx) (F M : List Addr) (H : Hp) (σp : Sl) (σ : L2.St) : Prop where
  len : σp.length = σ.length
  at_ : ∀ (i : Nat) (p : PV), σp[i]? = some (some p) → ∃ v, σ[i]? = some (some v) ∧ RV Z F M H p v
theorem SlR.mono {σp : Sl} {σ : L2.St} (h : SlR Z F M H σp σ) (r : Rel Z F M S H) (x : Ext M H M' H') : SlR Z F M' H' σp σ :=
  ⟨h.len, fun i p e => let ⟨v, e1, q⟩ := h.at_ i p e; ⟨v, e1, RV.mono r x q⟩⟩
theorem SlR.set {σp : Sl} {σ : L2.St} (h : SlR Z F M H σp σ) {i : Nat} {p : PV} {v : V} (q : RV Z F M H p v) : SlR Z F M H (σp.set i (some p)) (σ.set i (some v)) := by
  refine ⟨by simp [h.len], fun j p' e => ?_⟩
  by_cases hj : i = j
  · subst hj
    by_cases hi : i < σp.length
    · rw [List.getElem?_set_self hi] at e
      cases e
      exact ⟨v, by rw [List.getElem?_set_self (by rw [← h.len]; exact hi)], q⟩
    · rw [List.getElem?_eq_none (by simpa using hi)] at e
      cases e
  · rw [List.getElem?_set_ne hj] at e
    obtain ⟨v', e1, q'⟩ := h.at_ j p' e
    exact ⟨v', by rw [List.getElem?_set_ne hj]; exact e1, q'⟩
theorem SlR.wipe {σp : Sl} {σ : L2.St} (h : SlR Z F M H σp σ) : ∀ vs : List Nat, SlR Z F M H (wipeP σp vs) (wipe σ vs)
  | [] => h
  | v :: vs => by
    have ih := SlR.wipe h vs
    refine ⟨by simp [wipeP, L2.wipe, ih.len], fun j p' e => ?_⟩
    unfold wipeP at e
    by_cases hj : v = j
    · subst hj
      by_cases hi : v < (wipeP σp vs).length
      · rw [List.getElem?_set_self hi] at e
        cases e
      · rw [List.getElem?_eq_none (by simpa using hi)] at e
        cases e
    · rw [List.getElem?_set_ne hj] at e
      obtain ⟨v', e1, q'⟩ := ih.at_ j p' e
      exact ⟨v', by unfold L2.wipe; rw [List.getElem?_set_ne hj]; exact e1, q'⟩

/-! ### what is wanted behind an evaluation -/
/-- an exception: its class by number, its fields -/
structure Ex where
  /-- the exception's class, own dict, heap fit the number and the fields -/
  is : Nat → List PV → Value → Option Addr → Hp → Prop
def Post {α β : Type} (Z : Fx) (X : Ex) (F : List Addr) (R : List Addr → Hp → α → β → Prop) (M : List Addr) (H : Hp) (r : Rs α) (Q : β → Hp → Prop) (W : XK) : Prop := match r with
  | .ok v S' => ∀ M' H' u, Ext M H M' H' → Rel Z F M' S' H' → R M' H' v u → Q u H'
  | .ex c fs S' => ∀ M' H' cls d, Ext M H M' H' → Rel Z F M' S' H' → X.is c fs cls d H' → W cls d H'
  | .bad => False
theorem Post.ext {α β : Type} {X : Ex} {R : List Addr → Hp → α → β → Prop} {r : Rs α} {Q : β → Hp → Prop} {W : XK} (p : Post Z X F R M H r Q W) (x : Ext M H M' H') : Post Z X F R M' H' r Q W := by
  cases r with
  | ok v S' => exact fun M2 H2 u e rl q => p M2 H2 u (x.trans e) rl q
  | ex c fs S' => exact fun M2 H2 cls d e rl q => p M2 H2 cls d (x.trans e) rl q
  | bad => exact p
theorem Post.bind {α β γ δ : Type} {X : Ex} {R : List Addr → Hp → α → β → Prop} {R' : List Addr → Hp → γ → δ → Prop} {r : Rs α} {f : α → Sto → Rs γ} {Q : δ → Hp → Prop} {W : XK} (p : Post Z X F R' M H (r.bind f) Q W) :
    Post Z X F R M H r (fun u H' => ∃ v M' S', Ext M H M' H' ∧ Rel Z F M' S' H' ∧ R M' H' v u ∧ Post Z X F R' M' H' (f v S') Q W) W := by
  cases r with
  | ok v S' => exact fun M' H' u e rl q => ⟨v, M', S', e, rl, q, Post.ext p e⟩
  | ex c fs S' => exact p
  | bad => exact p
theorem Post.imp {α β : Type} {X : Ex} {R : List Addr → Hp → α → β → Prop} {r : Rs α} {Q Q' : β → Hp → Prop} {W : XK} (p : Post Z X F R M H r Q W) (h : ∀ u H', Q u H' → Q' u H') : Post Z X F R M H r Q' W := by
  cases r with
  | ok v S' => exact fun M2 H2 u e rl q => h _ _ (p M2 H2 u e rl q)
  | ex c fs S' => exact p
  | bad => exact p
end
end Ev

set_option Elab.async false
set_option linter.all false
set_option maxRecDepth 100000
/-! rules by values beside the evaluator's -/
namespace Ev
open PySem PySem.Spec PyProof.Rows L2

section
variable {Z : Fx} {F M : List Addr} {S : Sto} {H : Hp}
/-! ### frozen, as data -/
mutual
theorem RV.free : ∀ {p : PV} {v : V} {F M : List Addr}, noRef p = true → RV Z F M H p v → ∀ F' M', (∀ a ∈ F', a ∈ F ∨ a ∈ M) → (∀ a ∈ M', a ∈ F ∨ a ∈ M) → RV Z F' M' H p v
  | .non, _, _, _, _, h, _, _, _, _ => by cases h; exact .non
  | .bl _, _, _, _, _, h, _, _, _, _ => by cases h; exact .bl _
  | .int _, _, _, _, _, h, _, _, _, _ => by cases h; exact .int _
  | .str _, _, _, _, _, h, _, _, _, _ => by cases h; exact .str _
  | .tup l, _, _, _, n, h, F', M', a, b => by
    cases h with
    | tup h1 h2 => exact .tup h1 (RVs.free (by simpa [noRef] using n) h2 F' M' a b)
  | .lst l, _, _, _, n, h, F', M', a, b => by
    cases h with
    | lst h1 h2 h3 h4 => exact .lst h1 (fun z => (a _ z).elim h2 h3) (fun z => (b _ z).elim h2 h3) (RVs.free (by simpa [noRef] using n) h4 F' M' a b)
  | .dct ks l, _, _, _, n, h, F', M', a, b => by
    cases h with
    | dct h1 h2 h3 h4 h5 => exact .dct h1 (fun z => (a _ z).elim h2 h3) (fun z => (b _ z).elim h2 h3) h4 (RVs.free (by simpa [noRef] using n) h5 F' M' a b)
  | .ref n, _, _, _, k, _, _, _, _, _ => by simp [noRef] at k
  | .err _ _ _, _, _, _, _, h, _, _, _, _ => by cases h
theorem RVs.free : ∀ {p : List PV} {v : List V} {F M : List Addr}, noRefs p = true → RVs Z F M H p v → ∀ F' M', (∀ a ∈ F', a ∈ F ∨ a ∈ M) → (∀ a ∈ M', a ∈ F ∨ a ∈ M) → RVs Z F' M' H p v
  | [], _, _, _, _, h, _, _, _, _ => by cases h; exact .nil
  | p :: ps, _, _, _, n, h, F', M', a, b => by
    have n2 : noRef p = true ∧ noRefs ps = true := by simpa [noRefs] using n
    cases h with
    | cons h1 h2 => exact .cons (RV.free n2.1 h1 F' M' a b) (RVs.free n2.2 h2 F' M' a b)
end
mutual
/-- without lists: whatever is taken for frozen -/
theorem RV.flat : ∀ {p : PV} {v : V} {F M : List Addr}, flat p = true → RV Z F M H p v → ∀ F' M', RV Z F' M' H p v
  | .non, _, _, _, _, h, _, _ => by cases h; exact .non
  | .bl _, _, _, _, _, h, _, _ => by cases h; exact .bl _
  | .int _, _, _, _, _, h, _, _ => by cases h; exact .int _
  | .str _, _, _, _, _, h, _, _ => by cases h; exact .str _
  | .tup l, _, _, _, n, h, F', M' => by
    cases h with
    | tup h1 h2 => exact .tup h1 (RVs.flat (by simpa [Ev.flat] using n) h2 F' M')
  | .lst l, _, _, _, n, _, _, _ => by simp [Ev.flat] at n
  | .dct ks l, _, _, _, n, _, _, _ => by simp [Ev.flat] at n
  | .ref n, _, _, _, k, _, _, _ => by simp [Ev.flat] at k
  | .err _ _ _, _, _, _, k, _, _, _ => by simp [Ev.flat] at k
theorem RVs.flat : ∀ {p : List PV} {v : List V} {F M : List Addr}, flats p = true → RVs Z F M H p v → ∀ F' M', RVs Z F' M' H p v
  | [], _, _, _, _, h, _, _ => by cases h; exact .nil
  | p :: ps, _, _, _, n, h, F', M' => by
    have n2 : Ev.flat p = true ∧ flats ps = true := by simpa [flats] using n
    cases h with
    | cons h1 h2 => exact .cons (RV.flat n2.1 h1 F' M') (RVs.flat n2.2 h2 F' M')
end
theorem allO_rv {f : PV → Option PV} {F' M' : List Addr} : ∀ {l l' : List PV} {xs : List V}, allO f l = some l' → RVs Z F M H l xs → (∀ p p' v, p ∈ l → f p = some p' → RV Z F M H p v → RV Z F' M' H p' v) → RVs Z F' M' H l' xs
  | [], l', xs, e, h, _ => by
    cases h
    have e2 : l' = [] := by simpa [allO] using e.symm
    rw [e2]
    exact .nil
  | p :: r, l', xs, e, h, g => by
    cases h with
    | cons h1 h2 =>
      unfold allO at e
      split at e
      · rename_i y s e1 e2
        cases e
        exact .cons (g p y _ (by simp) e1 h1) (allO_rv e2 h2 fun p p' v hp => g p p' v (List.mem_cons_of_mem _ hp))
      · cases e
theorem frz_rv (r : Rel Z F M S H) : ∀ (n : Nat) {p p' : PV} {v : V}, frz S n p = some p' → RV Z F M H p v → RV Z [] [] H p' v
  | 0, p, p', v, e, _ => by simp [frz] at e
  | n + 1, p, p', v, e, h => by
    have go : ∀ {l l' : List PV} {xs : List V}, allO (frz S n) l = some l' → RVs Z F M H l xs → RVs Z [] [] H l' xs := fun e h => allO_rv e h fun p p' v _ e h => frz_rv r n e h
    unfold frz at e
    split at e
    · rename_i hn
      cases e
      exact RV.free hn h [] [] (by simp) (by simp)
    cases p with
    | non => cases h; simp at e; subst e; exact .non
    | bl b => cases h; simp at e; subst e; exact .bl _
    | int b => cases h; simp at e; subst e; exact .int _
    | str b => cases h; simp at e; subst e; exact .str _
    | tup l =>
      cases h with
      | tup h1 h2 =>
        obtain ⟨l', e1, e2⟩ := Option.map_eq_some_iff.mp (show (allO (frz S n) l).map .tup = some p' from e)
        subst e2
        exact .tup h1 (go e1 h2)
    | lst l =>
      cases h with
      | lst h1 h2 h3 h4 =>
        obtain ⟨l', e1, e2⟩ := Option.map_eq_some_iff.mp (show (allO (frz S n) l).map .lst = some p' from e)
        subst e2
        exact .lst h1 (by simp) (by simp) (go e1 h4)
    | dct ks l =>
      cases h with
      | dct h1 h2 h3 h4 h5 =>
        obtain ⟨l', e1, e2⟩ := Option.map_eq_some_iff.mp (show (allO (frz S n) l).map (.dct ks) = some p' from e)
        subst e2
        exact .dct h1 (by simp) (by simp) h4 (go e1 h5)
    | ref k =>
      cases h with
      | ref h1 =>
        have e0 : (match S[k]? with
          | some (.lst l) => (allO (frz S n) l).map PV.lst
          | some (.dct l) => (allO (frz S n) (l.map (·.2))).map (.dct (l.map (·.1)))
          | none => none) = some p' := e
        cases hk : S[k]? with
        | none => rw [hk] at e0; cases e0
        | some o =>
          rw [hk] at e0
          have q := r.ob k _ o h1 hk
          cases o with
          | lst l =>
            obtain ⟨xs, q1, q2⟩ := q
            obtain ⟨l', e1, e2⟩ := Option.map_eq_some_iff.mp (show (allO (frz S n) l).map PV.lst = some p' from e0)
            subst e2
            exact .lst (.inl q1) (by simp) (by simp) (go e1 q2)
          | dct l =>
            obtain ⟨kvs, q1, q2, q3⟩ := q
            obtain ⟨l', e1, e2⟩ := Option.map_eq_some_iff.mp (show (allO (frz S n) (l.map (·.2))).map (PV.dct (l.map (·.1))) = some p' from e0)
            subst e2
            exact .dct q1 (by simp) (by simp) q2 (go e1 q3)
    | err _ _ _ => cases h
theorem frzV_rv (r : Rel Z F M S H) {p p' : PV} {v : V} (e : frzV S p = some p') (h : RV Z F M H p v) : RV Z [] [] H p' v := by
  unfold frzV at e
  split at e
  · rename_i n
    cases e
    exact RV.free n h [] [] (by simp) (by simp)
  · exact frz_rv r _ e h
mutual
theorem toPD_dp : ∀ {p : PV} {v : V} {d : PyData} {F M : List Addr}, toPD p = some d → RV Z F M H p v → Dp Z.K H v d
  | .non, _, _, _, _, e, h => by cases h; simp [toPD] at e; subst e; exact .non
  | .bl _, _, _, _, _, e, h => by cases h; simp [toPD] at e; subst e; exact .bl _
  | .int _, _, _, _, _, e, h => by cases h; simp [toPD] at e; subst e; exact .int _
  | .str _, _, _, _, _, e, h => by cases h; simp [toPD] at e; subst e; exact .str _
  | .tup l, _, _, _, _, e, h => by
    cases h with
    | tup h1 h2 =>
      obtain ⟨ds, e1, e2⟩ := Option.map_eq_some_iff.mp (show (toPDs l).map PyData.tuple = some _ from by simpa [toPD] using e)
      subst e2
      exact .tup h1 (toPDs_dp e1 h2)
  | .lst l, _, _, _, _, e, h => by
    cases h with
    | lst h1 h2 h3 h4 =>
      obtain ⟨ds, e1, e2⟩ := Option.map_eq_some_iff.mp (show (toPDs l).map PyData.list = some _ from by simpa [toPD] using e)
      subst e2
      exact .lst (.inl h1) (toPDs_dp e1 h4)
  | .dct _ _, _, _, _, _, e, _ => by simp [toPD] at e
  | .ref _, _, _, _, _, e, _ => by simp [toPD] at e
  | .err _ _ _, _, _, _, _, e, _ => by simp [toPD] at e
theorem toPDs_dp : ∀ {p : List PV} {v : List V} {ds : List PyData} {F M : List Addr}, toPDs p = some ds → RVs Z F M H p v → DpAll Z.K H v ds
  | [], _, ds, _, _, e, h => by
    cases h
    have e2 : ds = [] := by simpa [toPDs] using e.symm
    rw [e2]
    exact .nil
  | p :: ps, _, ds, _, _, e, h => by
    cases h with
    | cons h1 h2 =>
      unfold toPDs at e
      split at e
      · rename_i y s e1 e2
        cases e
        exact .cons (toPD_dp e1 h1) (toPDs_dp e2 h2)
      · cases e
end
/-- the items of a list, a tuple -/
theorem itemsOf_rv (r : Rel Z F M S H) {p : PV} {l : List PV} {v : V} (e : itemsOf S p = some l) (h : RV Z F M H p v) : ∃ a xs, v = .ref a ∧ RVs Z F M H l xs ∧ (SqL Z.K H a xs ∨ SqT Z.K H a xs) := by
  cases p with
  | tup l' =>
    cases h with
    | tup h1 h2 =>
      have e2 : l' = l := by simpa [itemsOf] using e
      subst e2
      exact ⟨_, _, rfl, h2, .inr h1⟩
  | lst l' =>
    cases h with
    | lst h1 h2 h3 h4 =>
      have e2 : l' = l := by simpa [itemsOf] using e
      subst e2
      exact ⟨_, _, rfl, h4, .inl (.inl h1)⟩
  | ref n =>
    cases h with
    | ref h1 =>
      have e0 : (match S[n]? with
        | some (.lst l) => some l
        | _ => none) = some l := e
      cases hk : S[n]? with
      | none => rw [hk] at e0; cases e0
      | some o =>
        rw [hk] at e0
        cases o with
        | lst l' =>
          obtain ⟨xs, q1, q2⟩ := r.ob n _ _ h1 hk
          have e2 : l' = l := by simpa using e0
          subst e2
          exact ⟨_, xs, rfl, q2, .inl (.inl (.inl q1))⟩
        | dct l' => cases e0
  | _ => simp [itemsOf] at e
end

/-! ### rules that the layer lacks -/
section
variable {X : Cx}
theorem op_mul_str : OpR X (binaryOp .Mult) (fun x y H Q => ∃ z n, x = .str z ∧ y = .int n ∧ MulOk z n ∧ Q (.str (Txt.mul z n)) H) := by
  intro pins s σ H x y v u Q I rx ry h
  obtain ⟨z, n, rfl, rfl, m, q⟩ := h
  obtain ⟨t, rfl⟩ := rx
  obtain ⟨t', rfl⟩ := ry
  exact SB.mul m fun t' k => ⟨.str _, H, I.tok _, ⟨_, rfl⟩, q⟩
def rEqP (K : PySem.W.Frag) : R2 := fun x y H Q => ∃ d e, Dp K H x d ∧ Dp K H y e ∧ d.canLay0 = true ∧ e.canLay0 = true ∧ min d.depth e.depth ≤ 100 ∧ Q (.bl (PyData.eqv d e)) H
def rNeP (K : PySem.W.Frag) : R2 := fun x y H Q => ∃ d e, Dp K H x d ∧ Dp K H y e ∧ d.canLay0 = true ∧ e.canLay0 = true ∧ min d.depth e.depth ≤ 100 ∧ Q (.bl (!PyData.eqv d e)) H
theorem op_eqP (hu : X.A.units + 200 < cLine) : OpR X (compareOp .Eq) (rEqP X.K) := by
  intro pins s σ H x y v u Q I rx ry h
  obtain ⟨d, e, hd, he, sd, se, m, q⟩ := h
  obtain ⟨as, r1⟩ := Dp.reads I d x v hd rx
  obtain ⟨bs, r2⟩ := Dp.reads I e y u he ry
  exact SeqAt.compareEq_reads r1 r2 sd se (by omega) ⟨.bl _, H, I, rfl, q⟩
theorem op_neP (hu : X.A.units + 200 < cLine) : OpR X (compareOp .NotEq) (rNeP X.K) := by
  intro pins s σ H x y v u Q I rx ry h
  obtain ⟨d, e, hd, he, sd, se, m, q⟩ := h
  obtain ⟨as, r1⟩ := Dp.reads I d x v hd rx
  obtain ⟨bs, r2⟩ := Dp.reads I e y u he ry
  exact SeqAt.compareNe_reads r1 r2 sd se (by omega) ⟨.bl _, H, I, rfl, q⟩
/-- repr of data -/
theorem call_reprP (hu : X.A.units + 200 < cLine) (hg : X.A.guards = some []) : CallR X (.builtin "repr") (fun xs H Q => ∃ x d, xs = [x] ∧ Dp X.K H x d ∧ d.showable = true ∧ d.hasDict = false ∧ d.depth ≤ 100 ∧ d.shown.length ≤ sizeLine ∧ Q (.str d.shown) H) := by
  intro pins s σ H xs us Q I rv h
  obtain ⟨x, d, rfl, hd, h1, h2, h3, h4, q⟩ := h
  cases rv with
  | cons r rr =>
    cases rr
    have fin : ∀ (h' : Heap) (u : Tok) (tk : Nat), (∀ b o, s.heap.get? b = some o → h'.get? b = some o) → EP X pins σ Q (.str d.shown u) { s with heap := h', toks := tk } := fun h' u tk k => ⟨.str _, H, I.kept k, ⟨_, rfl⟩, q⟩
    obtain ⟨as, r1⟩ := Dp.reads I d x _ hd r
    cases r1 with
    | none => exact P.repr_of_none (fin s.heap s.toks (s.toks + 1) fun _ _ e => e)
    | bool b => exact P.repr_of_bool (fin s.heap s.toks (s.toks + 1) fun _ _ e => e)
    | int i t => exact P.repr_of_int (of_decide_eq_true h1) (fin s.heap s.toks (s.toks + 1) fun _ _ e => e)
    | str z t => exact P.repr_of_str (fin s.heap s.toks (s.toks + 1) fun _ _ e => e) h4
    | list a1 a2 a3 a4 => exact repr_of_reads' (Reads.list a1 a2 a3 a4) h1 (fun z => by rw [h2] at z; cases z) hg (by omega) (fun _ _ e => e) fin h4
    | tuple a1 a2 a3 a4 => exact repr_of_reads' (Reads.tuple a1 a2 a3 a4) h1 (fun z => by rw [h2] at z; cases z) hg (by omega) (fun _ _ e => e) fin h4
    | dict a1 a2 a3 a4 a5 => cases hd
end
end Ev

set_option Elab.async false
set_option linter.all false
set_option maxRecDepth 100000
/-! operators and built-ins by the evaluator's values -/
namespace Ev
open PySem PySem.Spec PyProof.Rows L2

section
variable {Z : Fx} {E : Ex} {F M : List Addr} {S : Sto} {H : Hp} {W : XK}
abbrev R1 (Z : Fx) (F : List Addr) : List Addr → Hp → PV → V → Prop := fun M H p v => RV Z F M H p v
abbrev Rn (Z : Fx) (F : List Addr) : List Addr → Hp → List PV → List V → Prop := fun M H p v => RVs Z F M H p v
abbrev Rb {α : Type} : List Addr → Hp → α → α → Prop := fun _ _ p v => p = v

/-- a value that is there already -/
theorem Post.val {α β : Type} {R : List Addr → Hp → α → β → Prop} {p : α} {v : β} {Q : β → Hp → Prop} (h : Post Z E F R M H (.ok p S) Q W) (r : Rel Z F M S H) (q : R M H p v) : Q v H := h M H v (Ext.refl M H) r q
theorem Post.ofO {α β : Type} {R : List Addr → Hp → α → β → Prop} {o : Option α} {Q : β → Hp → Prop} (h : Post Z E F R M H (ofO o S) Q W) : ∃ p, o = some p ∧ Post Z E F R M H (.ok p S) Q W := by
  cases o with
  | none => exact h.elim
  | some p => exact ⟨p, rfl, h⟩
/-- a new tuple -/
theorem Post.newT {l : List PV} {xs : List V} {Q : V → Hp → Prop} (h : Post Z E F (R1 Z F) M H (.ok (.tup l) S) Q W) (r : Rel Z F M S H) (q : RVs Z F M H l xs) {p : Addr} (hp : H p = none) : Q (.ref p) (upd H p (.tup xs)) := by
  obtain ⟨r2, x⟩ := r.fresh (o := .tup xs) hp
  exact h M _ _ x r2 (.tup (.inl (.inl upd_same)) (RVs.mono r x q))
theorem notIn_fresh (r : Rel Z F M S H) {p : Addr} (hp : H p = none) : p ∉ F ∧ p ∉ M := by
  refine ⟨fun h => ?_, fun h => ?_⟩
  · obtain ⟨u, e, _⟩ := r.there p h
    rw [hp] at e
    cases e
  · obtain ⟨u, e, _⟩ := r.tr h
    rw [hp] at e
    cases e
/-- a new list -/
theorem Post.newL {m : Bool} {l : List PV} {xs : List V} {Q : V → Hp → Prop} (h : Post Z E F (R1 Z F) M H (newL m l S) Q W) (r : Rel Z F M S H) (q : RVs Z F M H l xs) {p : Addr} (hp : H p = none) : Q (.ref p) (upd H p (.lst xs)) := by
  cases m with
  | false =>
    obtain ⟨r2, x⟩ := r.fresh (o := .lst xs) hp
    obtain ⟨n1, n2⟩ := notIn_fresh r hp
    exact h M _ _ x r2 (.lst (.inl upd_same) n1 n2 (RVs.mono r x q))
  | true =>
    obtain ⟨r2, x⟩ := r.more (o := .lst xs) (so := .lst l) hp fun x => ⟨xs, upd_same, RVs.mono r x q⟩
    exact h _ _ _ x r2 (.ref (by rw [← r.len]; simp))

/-! ### operators -/
def rBin (K : PySem.W.Frag) : BOp → R2
  | .add => fun x y H Q => rI0 (fun i j => .int (i + j)) x y H Q ∨ (fun x y H Q => ∃ i j, x = .str i ∧ y = .str j ∧ i.length + j.length ≤ sizeLine ∧ Q (.str (i ++ j)) H) x y H Q ∨ rCatT K x y H Q
  | .sub => rI0 fun i j => .int (i - j)
  | .mul => fun x y H Q => rI CMulW (fun i j => .int (i * j)) x y H Q ∨ (fun x y H Q => ∃ z n, x = .str z ∧ y = .int n ∧ MulOk z n ∧ Q (.str (Txt.mul z n)) H) x y H Q
  | .fdiv => rI CDivW fun i j => .int (i / j)
  | .mod => rI (fun _ j => 0 < j) fun i j => .int (i % j)
  | .pow => rI CPow fun i j => .int (i ^ j.toNat)
def opOf : BOp → Operator
  | .add => .Add | .sub => .Sub | .mul => .Mult | .fdiv => .FloorDiv | .mod => .Mod | .pow => .Pow
theorem op_bin {X : Cx} (op : BOp) : OpR X (binaryOp (opOf op)) (rBin X.K op) := by
  cases op with
  | add => exact OpR.or op_add (OpR.or op_add_str op_catT)
  | sub => exact op_sub
  | mul => exact OpR.or op_mulW op_mul_str
  | fdiv => exact op_fdivW
  | mod => exact op_mod
  | pow => exact op_pow
theorem mulStr_ok {x : Str} {n : Int} {z : Str} (h : mulStr x n = some z) : MulOk x n ∧ z = Txt.mul x n := by
  unfold mulStr at h
  split at h
  · rename_i c
    obtain ⟨c1, c2, c3⟩ := c
    refine ⟨⟨?_, fun _ _ => ?_, fun _ _ => ?_⟩, (Option.some.inj h).symm⟩
    · have a1 : ¬ n < -(2 ^ 63 : Int) := by omega
      have a2 : ¬ n ≥ 2 ^ 63 := by omega
      rw [decide_eq_false a1, decide_eq_false a2]
      rfl
    · intro q
      have h1 : (9223372036854775807 : Int) / n ≥ 1000 ∨ n = 0 := by
        by_cases hn : n = 0
        · exact .inr hn
        · left
          have hp : 0 < n := by omega
          exact (Int.le_ediv_iff_mul_le hp).mpr (by omega)
      rename_i g1 g2
      rcases h1 with h1 | h1
      · have e : (2 ^ 63 - 1 : Int) = 9223372036854775807 := by decide
        rw [e] at q
        omega
      · omega
    · have b : x.length * n.toNat ≤ 1000 * 1000 := Nat.mul_le_mul c3 (by omega)
      unfold Builtin.Str.tooLong
      simp only [decide_eq_false_iff_not]
      have : sizeLine = 16777216 := by decide
      omega
  · cases h
theorem bin_ok {op : BOp} {p q z : PV} {x y : V} {Q : VK} (r : Rel Z F M S H) (e : binV op p q = some z) (rx : RV Z F M H p x) (ry : RV Z F M H q y) (h : Post Z E F (R1 Z F) M H (.ok z S) Q W) : rBin Z.K op x y H Q := by
  unfold binV at e
  split at e
  · cases rx; cases ry; cases e
    exact .inl ⟨_, _, rfl, rfl, h.val r (.int _)⟩
  · cases rx; cases ry
    split at e
    · rename_i c
      cases e
      exact .inr (.inl ⟨_, _, rfl, rfl, Nat.le_trans c (by decide), h.val r (.str _)⟩)
    · cases e
  · cases rx with
    | tup a1 a2 =>
      cases ry with
      | tup b1 b2 =>
        split at e
        · rename_i c
          obtain ⟨c1, c2, c3⟩ := c
          cases e
          have l1 := a2.len
          have l2 := b2.len
          refine .inr (.inr ⟨_, _, _, _, rfl, rfl, a1, b1, fun z => c1 (List.length_eq_zero_iff.mp (by rw [l1, z]; rfl)), ?_, fun z => absurd (List.length_eq_zero_iff.mp (by rw [l2, z]; rfl)) c2, fun _ p hp => h.newT r (a2.app b2) hp⟩)
          rw [← l1, ← l2]
          exact Nat.le_trans c3 (by decide)
        · cases e
  · cases rx; cases ry; cases e
    exact ⟨_, _, rfl, rfl, h.val r (.int _)⟩
  · cases rx; cases ry
    split at e
    · rename_i c
      cases e
      exact .inl ⟨_, _, rfl, rfl, (of_decide_eq_true c : _ < 1000000), h.val r (.int _)⟩
    · cases e
  · cases rx; cases ry
    obtain ⟨z', e1, e2⟩ := Option.map_eq_some_iff.mp e
    subst e2
    obtain ⟨m, e3⟩ := mulStr_ok e1
    subst e3
    exact .inr ⟨_, _, rfl, rfl, m, h.val r (.str _)⟩
  · cases rx; cases ry
    split at e
    · rename_i c
      cases e
      exact ⟨_, _, rfl, rfl, c, h.val r (.int _)⟩
    · cases e
  · cases rx; cases ry
    split at e
    · rename_i c
      cases e
      exact ⟨_, _, rfl, rfl, c, h.val r (.int _)⟩
    · cases e
  · cases rx; cases ry
    split at e
    · rename_i c
      cases e
      exact ⟨_, _, rfl, rfl, c, h.val r (.int _)⟩
    · cases e
  · cases e

/-! ### comparisons -/
def rCmp (K : PySem.W.Frag) : COp → R2
  | .eq => rEqP K
  | .ne => rNeP K
  | .lt => rI0 fun i j => .bl (decide (i < j))
  | .le => rI0 fun i j => .bl (decide (i ≤ j))
  | .gt => rI0 fun i j => .bl (decide (j < i))
  | .ge => rI0 fun i j => .bl (decide (j ≤ i))
  | .isN => fun x y H Q => y = .non ∧ Q (.bl (decide (x = .non))) H
  | .notN => fun x y H Q => y = .non ∧ Q (.bl (!decide (x = .non))) H
  | .isin => fun x y H Q => ∃ (c : Nat) (z : Str), x = .str ⟨#[c]⟩ ∧ y = .str z ∧ Q (.bl (decide (c ∈ z.cps.toList))) H
  | .notin => fun x y H Q => ∃ (c : Nat) (z : Str), x = .str ⟨#[c]⟩ ∧ y = .str z ∧ Q (.bl (!decide (c ∈ z.cps.toList))) H
def cOf : COp → CmpOp
  | .eq => .Eq | .ne => .NotEq | .lt => .Lt | .le => .LtE | .gt => .Gt | .ge => .GtE | .isN => .Is | .notN => .IsNot | .isin => .In | .notin => .NotIn
theorem op_cmp {X : Cx} (hu : X.A.units + 200 < cLine) (op : COp) : OpR X (compareOp (cOf op)) (rCmp X.K op) := by
  cases op with
  | eq => exact op_eqP hu
  | ne => exact op_neP hu
  | lt => exact op_lt
  | le => exact op_le
  | gt => exact op_gt
  | ge => exact op_ge
  | isN => exact op_isN
  | notN => exact op_notN
  | isin => exact op_in_sign
  | notin => exact op_notIn_sign
theorem eqV2_ok (r : Rel Z F M S H) {p q : PV} {x y : V} {b : Bool} (e : eqV2 S p q = some b) (rx : RV Z F M H p x) (ry : RV Z F M H q y) : ∃ d f, Dp Z.K H x d ∧ Dp Z.K H y f ∧ d.canLay0 = true ∧ f.canLay0 = true ∧ min d.depth f.depth ≤ 100 ∧ b = PyData.eqv d f := by
  unfold eqV2 at e
  split at e
  · rename_i d f e1 e2
    unfold eqPD at e
    split at e
    · rename_i c
      obtain ⟨p', q1, q2⟩ := Option.bind_eq_some_iff.mp e1
      obtain ⟨q', q3, q4⟩ := Option.bind_eq_some_iff.mp e2
      exact ⟨d, f, toPD_dp q2 (frzV_rv r q1 rx), toPD_dp q4 (frzV_rv r q3 ry), c.1, c.2.1, c.2.2, (Option.some.inj e).symm⟩
    · cases e
  · cases e
theorem rv_non {p : PV} {x : V} (h : RV Z F M H p x) : isNonP p = decide (x = .non) := by
  cases h <;> simp [isNonP]
theorem one_sign {i : Str} (h : i.length = 1) : i = ⟨#[i.cps.getD 0 0]⟩ := by
  obtain ⟨a⟩ := i
  have h1 : a.size = 1 := h
  obtain ⟨l⟩ := a
  match l, h1 with
  | [c], _ => rfl
theorem inV2_ok {p q : PV} {x y : V} {b : Bool} (e : inV2 S p q = some b) (rx : RV Z F M H p x) (ry : RV Z F M H q y) : ∃ (c : Nat) (z : Str), x = .str ⟨#[c]⟩ ∧ y = .str z ∧ b = decide (c ∈ z.cps.toList) := by
  unfold inV2 at e
  split at e
  · rename_i i j
    cases rx; cases ry
    split at e
    · rename_i c
      exact ⟨i.cps.getD 0 0, j, by rw [← one_sign c], rfl, (Option.some.inj e).symm⟩
    · cases e
  · cases e
theorem cmp_ok {op : COp} {p q : PV} {b : Bool} {x y : V} {Q : VK} (r : Rel Z F M S H) (e : cmpV S op p q = some b) (rx : RV Z F M H p x) (ry : RV Z F M H q y) (h : Q (.bl b) H) : rCmp Z.K op x y H Q := by
  cases op with
  | eq =>
    obtain ⟨d, f, h1, h2, h3, h4, h5, h6⟩ := eqV2_ok r e rx ry
    exact ⟨d, f, h1, h2, h3, h4, h5, by rw [← h6]; exact h⟩
  | ne =>
    obtain ⟨b', e1, e2⟩ := Option.map_eq_some_iff.mp (show (eqV2 S p q).map (!·) = some b from e)
    obtain ⟨d, f, h1, h2, h3, h4, h5, h6⟩ := eqV2_ok r e1 rx ry
    exact ⟨d, f, h1, h2, h3, h4, h5, by rw [← h6, e2]; exact h⟩
  | isN =>
    unfold cmpV at e
    simp only at e
    split at e
    · cases ry
      have e2 := Option.some.inj e
      rw [rv_non rx] at e2
      exact ⟨rfl, by rw [e2]; exact h⟩
    · cases e
  | notN =>
    unfold cmpV at e
    simp only at e
    split at e
    · cases ry
      have e2 := Option.some.inj e
      rw [rv_non rx] at e2
      exact ⟨rfl, by rw [e2]; exact h⟩
    · cases e
  | isin =>
    obtain ⟨c, z, e1, e2, e3⟩ := inV2_ok (show inV2 S p q = some b from e) rx ry
    exact ⟨c, z, e1, e2, by rw [← e3]; exact h⟩
  | notin =>
    obtain ⟨b', q1, q2⟩ := Option.map_eq_some_iff.mp (show (inV2 S p q).map (!·) = some b from e)
    obtain ⟨c, z, e1, e2, e3⟩ := inV2_ok q1 rx ry
    exact ⟨c, z, e1, e2, by rw [← e3, q2]; exact h⟩
  | lt =>
    unfold cmpV at e
    simp only at e
    split at e
    · cases rx; cases ry; cases e
      exact ⟨_, _, rfl, rfl, h⟩
    · cases e
  | le =>
    unfold cmpV at e
    simp only at e
    split at e
    · cases rx; cases ry; cases e
      exact ⟨_, _, rfl, rfl, h⟩
    · cases e
  | gt =>
    unfold cmpV at e
    simp only at e
    split at e
    · cases rx; cases ry; cases e
      exact ⟨_, _, rfl, rfl, h⟩
    · cases e
  | ge =>
    unfold cmpV at e
    simp only at e
    split at e
    · cases rx; cases ry; cases e
      exact ⟨_, _, rfl, rfl, h⟩
    · cases e
end
end Ev

set_option Elab.async false
set_option linter.all false
set_option maxRecDepth 100000
/-! built-ins, places, slices, methods by the evaluator's values -/
namespace Ev
open PySem PySem.Spec PyProof.Rows L2
section
variable {Z : Fx} {E : Ex} {F M : List Addr} {S : Sto} {H : Hp} {W : XK}
theorem listOf_rv (r : Rel Z F M S H) {p : PV} {l : List PV} {v : V} (e : listOf S p = some l) (h : RV Z F M H p v) : ∃ a xs, v = .ref a ∧ RVs Z F M H l xs ∧ SqL Z.K H a xs := by
  cases p with
  | lst l' =>
    cases h with
    | lst h1 h2 h3 h4 =>
      have e2 : l' = l := by simpa [listOf] using e
      subst e2
      exact ⟨_, _, rfl, h4, .inl h1⟩
  | ref n =>
    cases h with
    | ref h1 =>
      have e0 : (match S[n]? with
        | some (.lst l) => some l
        | _ => none) = some l := e
      cases hk : S[n]? with
      | none => rw [hk] at e0; cases e0
      | some o =>
        rw [hk] at e0
        cases o with
        | lst l' =>
          obtain ⟨xs, q1, q2⟩ := r.ob n _ _ h1 hk
          have e2 : l' = l := by simpa using e0
          subst e2
          exact ⟨_, xs, rfl, q2, .inl (.inl q1)⟩
        | dct l' => cases e0
  | _ => simp [listOf] at e
theorem allBls_rv : ∀ {l : List PV} {bs : List Bool} {xs : List V}, allBls l = some bs → RVs Z F M H l xs → xs = bs.map V.bl
  | [], bs, xs, e, h => by
    cases h
    have e2 : bs = [] := by simpa [allBls] using e.symm
    rw [e2] <;> rfl
  | p :: r, bs, xs, e, h => by
    cases h with
    | cons h1 h2 =>
      cases p with
      | bl b =>
        obtain ⟨bs', e1, e2⟩ := Option.map_eq_some_iff.mp (show (allBls r).map (b :: ·) = some bs from e)
        subst e2
        cases h1
        rw [allBls_rv e1 h2] <;> rfl
      | _ => simp [allBls] at e
theorem allStrs_rv : ∀ {l : List PV} {bs : List Str} {xs : List V}, allStrs l = some bs → RVs Z F M H l xs → xs = bs.map V.str
  | [], bs, xs, e, h => by
    cases h
    have e2 : bs = [] := by simpa [allStrs] using e.symm
    rw [e2] <;> rfl
  | p :: r, bs, xs, e, h => by
    cases h with
    | cons h1 h2 =>
      cases p with
      | str b =>
        obtain ⟨bs', e1, e2⟩ := Option.map_eq_some_iff.mp (show (allStrs r).map (b :: ·) = some bs from e)
        subst e2
        cases h1
        rw [allStrs_rv e1 h2] <;> rfl
      | _ => simp [allStrs] at e

/-! ### built-ins of one value -/
def rBi (K : PySem.W.Frag) : Blt → List V → Hp → VK → Prop
  | .len => fun xs H Q => (∃ p ys, xs = [.ref p] ∧ (SqL K H p ys ∨ SqT K H p ys) ∧ Q (.int ys.length) H) ∨ (∃ z : Str, xs = [.str z] ∧ z.length ≤ sizeLine ∧ Q (.int z.length) H)
  | .abs => fun xs H Q => ∃ i, xs = [.int i] ∧ Q (.int (if i < 0 then -i else i)) H
  | .int => fun xs H Q => ((∃ i, xs = [.int i] ∧ Q (.int i) H) ∨ ∃ k, xs = [.bl k] ∧ Q (.int (if k then 1 else 0)) H) ∨ ∃ a n, xs = [.str a] ∧ PySem.intText? a = some n ∧ a.length ≤ 640 ∧ Q (.int n) H
  | .str => fun xs H Q => (∃ i : Int, xs = [.int i] ∧ i.natAbs.log2 < 1920 ∧ Q (.str (toString i)) H) ∨ ∃ a, xs = [.str a] ∧ Q (.str a) H
  | .tuple => fun xs H Q => ∃ p ys, xs = [.ref p] ∧ ((SqL K H p ys ∧ ∀ l, H l = none → Q (.ref l) (upd H l (.tup ys))) ∨ (SqT K H p ys ∧ Q (.ref p) H))
  | .all => rAll K
  | .any => rAny K
  | .repr => fun xs H Q => ∃ x d, xs = [x] ∧ Dp K H x d ∧ d.showable = true ∧ d.hasDict = false ∧ d.depth ≤ 100 ∧ d.shown.length ≤ sizeLine ∧ Q (.str d.shown) H
  | _ => fun _ _ _ => False
def biB : Blt → Option String
  | .len => some "len" | .abs => some "abs" | .all => some "all" | .any => some "any" | .repr => some "repr"
  | _ => none
def biT : Blt → Option String
  | .int => some "int" | .str => some "str" | .tuple => some "tuple"
  | _ => none
theorem call_biB {X : Cx} (hu : X.A.units + 200 < cLine) (hg : X.A.guards = some []) (hc : X.calm = true) {b : Blt} {n : String} (e : biB b = some n) : CallR X (.builtin n) (rBi X.K b) := by
  cases b with
  | len => cases e; exact CallR.or call_len_seq call_len_str
  | abs => cases e; exact call_abs
  | all => cases e; exact cr_all hc
  | any => cases e; exact cr_any hc
  | repr => cases e; exact call_reprP hu hg
  | _ => cases e
theorem call_biT {X : Cx} {b : Blt} {n : String} (e : biT b = some n) : CallR X (.type n) (rBi X.K b) := by
  cases b with
  | int => cases e; exact CallR.or call_int1 call_int_str
  | str => cases e; exact CallR.or call_str_int SkE.call_str_str
  | tuple => cases e; exact call_tuple_of
  | _ => cases e
theorem bi_ok {b : Blt} {p z : PV} {x : V} {Q : VK} (r : Rel Z F M S H) (e : biV S b p = some z) (rx : RV Z F M H p x) (h : Post Z E F (R1 Z F) M H (.ok z S) Q W) : rBi Z.K b [x] H Q := by
  cases b with
  | len =>
    cases p with
    | str s =>
      cases rx
      have e0 : (if s.length ≤ 16000000 then some (PV.int s.length) else none) = some z := e
      split at e0
      · rename_i c
        cases e0
        exact .inr ⟨s, rfl, Nat.le_trans c (by decide), h.val r (.int _)⟩
      · cases e0
    | non => simp [biV, itemsOf] at e
    | bl _ => simp [biV, itemsOf] at e
    | int _ => simp [biV, itemsOf] at e
    | dct _ _ => simp [biV, itemsOf] at e
    | err _ _ _ => simp [biV, itemsOf] at e
    | tup l =>
      obtain ⟨l', e1, e2⟩ := Option.map_eq_some_iff.mp (show (itemsOf S (.tup l)).map (fun l => PV.int l.length) = some z from e)
      obtain ⟨a, xs, rfl, q1, q2⟩ := itemsOf_rv r e1 rx
      subst e2
      exact .inl ⟨a, xs, rfl, q2, h.val r (by rw [q1.len]; exact .int _)⟩
    | lst l =>
      obtain ⟨l', e1, e2⟩ := Option.map_eq_some_iff.mp (show (itemsOf S (.lst l)).map (fun l => PV.int l.length) = some z from e)
      obtain ⟨a, xs, rfl, q1, q2⟩ := itemsOf_rv r e1 rx
      subst e2
      exact .inl ⟨a, xs, rfl, q2, h.val r (by rw [q1.len]; exact .int _)⟩
    | ref n =>
      obtain ⟨l', e1, e2⟩ := Option.map_eq_some_iff.mp (show (itemsOf S (.ref n)).map (fun l => PV.int l.length) = some z from e)
      obtain ⟨a, xs, rfl, q1, q2⟩ := itemsOf_rv r e1 rx
      subst e2
      exact .inl ⟨a, xs, rfl, q2, h.val r (by rw [q1.len]; exact .int _)⟩
  | abs =>
    cases p <;> simp [biV] at e
    cases rx
    subst e
    exact ⟨_, rfl, h.val r (.int _)⟩
  | int =>
    cases p with
    | int i =>
      cases rx
      have e2 : PV.int i = z := by simpa [biV] using e
      subst e2
      exact .inl (.inl ⟨_, rfl, h.val r (.int _)⟩)
    | bl k =>
      cases rx
      have e2 : PV.int (if k then 1 else 0) = z := by simpa [biV] using e
      subst e2
      exact .inl (.inr ⟨_, rfl, h.val r (.int _)⟩)
    | str s =>
      cases rx
      have e0 : (if s.length ≤ 600 then (PySem.intText? s).map PV.int else none) = some z := e
      split at e0
      · rename_i c
        obtain ⟨n, e1, e2⟩ := Option.map_eq_some_iff.mp e0
        subst e2
        exact .inr ⟨s, n, rfl, e1, by omega, h.val r (.int _)⟩
      · cases e0
    | _ => simp [biV] at e
  | str =>
    cases p with
    | int i =>
      cases rx
      have e0 : (if i.natAbs.log2 < 1900 then some (PV.str (toString i)) else none) = some z := e
      split at e0
      · rename_i c
        cases e0
        exact .inl ⟨i, rfl, by omega, h.val r (.str _)⟩
      · cases e0
    | str s =>
      cases rx
      have e2 : PV.str s = z := by simpa [biV] using e
      subst e2
      exact .inr ⟨_, rfl, h.val r (.str _)⟩
    | _ => simp [biV] at e
  | tuple =>
    have list : ∀ {p : PV}, RV Z F M H p x → (listOf S p).map PV.tup = some z → rBi Z.K .tuple [x] H Q := fun {p} rx e => by
      obtain ⟨l', e1, e2⟩ := Option.map_eq_some_iff.mp e
      obtain ⟨a, xs, rfl, q1, q2⟩ := listOf_rv r e1 rx
      subst e2
      exact ⟨a, xs, rfl, .inl ⟨q2, fun l hl => h.newT r q1 hl⟩⟩
    cases p with
    | tup l =>
      cases rx with
      | tup h1 h2 =>
        have e2 : PV.tup l = z := by simpa [biV] using e
        subst e2
        exact ⟨_, _, rfl, .inr ⟨h1, h.val r (.tup h1 h2)⟩⟩
    | lst l => exact list rx e
    | ref n => exact list rx e
    | _ => simp [biV, itemsOf] at e
  | all =>
    obtain ⟨l', e1, e2⟩ := Option.map_eq_some_iff.mp (show ((listOf S p).bind allBls).map (fun l => PV.bl (l.all id)) = some z from e)
    obtain ⟨l, e3, e4⟩ := Option.bind_eq_some_iff.mp e1
    obtain ⟨a, xs, rfl, q1, q2⟩ := listOf_rv r e3 rx
    have e5 := allBls_rv e4 q1
    subst e5 e2
    exact ⟨a, l', rfl, q2, h.val r (.bl _)⟩
  | any =>
    obtain ⟨l', e1, e2⟩ := Option.map_eq_some_iff.mp (show ((listOf S p).bind allBls).map (fun l => PV.bl (l.any id)) = some z from e)
    obtain ⟨l, e3, e4⟩ := Option.bind_eq_some_iff.mp e1
    obtain ⟨a, xs, rfl, q1, q2⟩ := listOf_rv r e3 rx
    have e5 := allBls_rv e4 q1
    subst e5 e2
    exact ⟨a, l', rfl, q2, h.val r (.bl _)⟩
  | repr =>
    have e0 : (match (frzV S p).bind toPD with
      | some d => if d.showable = true ∧ d.hasDict = false ∧ d.depth ≤ 100 ∧ d.shown.length ≤ 16000000 then some (PV.str d.shown) else none
      | none => none) = some z := e
    split at e0
    · rename_i d e1
      split at e0
      · rename_i c
        obtain ⟨c1, c2, c3, c4⟩ := c
        cases e0
        obtain ⟨p', q1, q2⟩ := Option.bind_eq_some_iff.mp e1
        exact ⟨x, d, rfl, toPD_dp q2 (frzV_rv r q1 rx), c1, c2, c3, Nat.le_trans c4 (by decide), h.val r (.str _)⟩
      · cases e0
    · cases e0
  | _ => simp [biV] at e
def rBi2 : Blt → List V → Hp → VK → Prop
  | .min => fun xs H Q => ∃ i j, xs = [.int i, .int j] ∧ Q (.int (if j < i then j else i)) H
  | .max => fun xs H Q => ∃ i j, xs = [.int i, .int j] ∧ Q (.int (if j > i then j else i)) H
  | _ => fun _ _ _ => False
def biB2 : Blt → Option String
  | .min => some "min" | .max => some "max"
  | _ => none
theorem call_biB2 {X : Cx} (hc : X.calm = true) {b : Blt} {n : String} (e : biB2 b = some n) : CallR X (.builtin n) (rBi2 b) := by
  cases b with
  | min => cases e; exact call_min2 hc
  | max => cases e; exact call_max2 hc
  | _ => cases e
theorem bi2_ok {b : Blt} {p q z : PV} {x y : V} {Q : VK} (r : Rel Z F M S H) (e : biV2 b p q = some z) (rx : RV Z F M H p x) (ry : RV Z F M H q y) (h : Post Z E F (R1 Z F) M H (.ok z S) Q W) : rBi2 b [x, y] H Q := by
  unfold biV2 at e
  split at e
  · cases rx; cases ry; cases e
    exact ⟨_, _, rfl, h.val r (.int _)⟩
  · cases rx; cases ry; cases e
    exact ⟨_, _, rfl, h.val r (.int _)⟩
  · cases e
/-- list(e) -/
theorem lof_ok {m : Bool} {p : PV} {l : List PV} {x : V} {Q : VK} (r : Rel Z F M S H) (e : itemsOf S p = some l) (rx : RV Z F M H p x) (h : Post Z E F (R1 Z F) M H (newL m l S) Q W) :
    ∃ q ys, [x] = [V.ref q] ∧ (SqL Z.K H q ys ∨ SqT Z.K H q ys) ∧ ∀ l, H l = none → Q (.ref l) (upd H l (.lst ys)) := by
  obtain ⟨a, xs, rfl, q1, q2⟩ := itemsOf_rv r e rx
  exact ⟨a, xs, rfl, q2, fun l hl => h.newL r q1 hl⟩

/-! ### isinstance -/
def tyName : Ty → String
  | .str => "str" | .int => "int" | .bool => "bool" | .tup => "tuple" | .lst => "list" | .dct => "dict"
theorem isi_ok (r : Rel Z F M S H) {p : PV} {x : V} (rx : RV Z F M H p x) (ok : tyOk S p = true) : ∃ T : String, TyX Z.K H x (.type T) ∧ ∀ t : Ty, kitB T (tyName t) = some (isTy S t p) := by
  cases rx with
  | non => exact ⟨_, .base .non, fun t => by cases t <;> (simp only [isTy]; decide +kernel)⟩
  | bl b => exact ⟨_, .base (.bl b), fun t => by cases t <;> (simp only [isTy]; decide +kernel)⟩
  | int b => exact ⟨_, .base (.int b), fun t => by cases t <;> (simp only [isTy]; decide +kernel)⟩
  | str b => exact ⟨_, .base (.str b), fun t => by cases t <;> (simp only [isTy]; decide +kernel)⟩
  | @tup a l xs h1 h2 =>
    have k : ∀ t : Ty, kitB "tuple" (tyName t) = some (isTy S t (.tup l)) := fun t => by cases t <;> (simp only [isTy]; decide +kernel)
    rcases h1 with (h1 | ⟨o, h1⟩) | ⟨o, _, _, h1, h2, _⟩
    · exact ⟨_, .base (.tup h1), k⟩
    · exact ⟨_, .fTuple h1, k⟩
    · exact ⟨_, .kTuple h1 h2, k⟩
  | @lst a l xs h1 h2 h3 h4 =>
    have k : ∀ t : Ty, kitB "list" (tyName t) = some (isTy S t (.lst l)) := fun t => by cases t <;> (simp only [isTy]; decide +kernel)
    rcases h1 with h1 | ⟨o, h1⟩
    · exact ⟨_, .base (.lst h1), k⟩
    · exact ⟨_, .base (.frz h1), k⟩
  | dct h1 h2 h3 h4 h5 => exact ⟨_, .base (.dK h1), fun t => by cases t <;> (simp only [isTy]; decide +kernel)⟩
  | @ref n a h1 =>
    have ok2 : (S[n]?).isSome = true := ok
    cases hk : S[n]? with
    | none => rw [hk] at ok2; cases ok2
    | some o =>
      cases o with
      | lst l =>
        obtain ⟨xs, q1, q2⟩ := r.ob n _ _ h1 hk
        exact ⟨_, .base (.lst q1), fun t => by cases t <;> (simp only [isTy, hk]; decide +kernel)⟩
      | dct l =>
        obtain ⟨xs, q1, q2⟩ := r.ob n _ _ h1 hk
        exact ⟨_, .base (.dK q1), fun t => by cases t <;> (simp only [isTy, hk]; decide +kernel)⟩
theorem isis_ok (r : Rel Z F M S H) {p : PV} {x : V} (rx : RV Z F M H p x) (ok : tyOk S p = true) : ∃ t : Value, TyX Z.K H x t ∧ ∀ ts : List Ty, PySem.W.kitAny Z.K t (ts.map fun t => .type (tyName t)) = some (ts.any fun t => isTy S t p) := by
  obtain ⟨T, h1, h2⟩ := isi_ok r rx ok
  refine ⟨_, h1, fun ts => ?_⟩
  induction ts with
  | nil => rfl
  | cons t r ih =>
    have e : PySem.W.kitOne Z.K (.type T) (.type (tyName t)) = some (isTy S t p) := kit_ty (h2 t)
    show (match PySem.W.kitOne Z.K (.type T) (.type (tyName t)) with
      | some true => some true
      | some false => PySem.W.kitAny Z.K (.type T) (r.map fun t => .type (tyName t))
      | none => none) = _
    rw [e, List.any_cons]
    cases isTy S t p with
    | true => rfl
    | false => exact ih
theorem tys_cls : ∀ ts : List Ty, Paired ClsV (ts.map fun t => V.ty (tyName t)) (ts.map fun t => Value.type (tyName t))
  | [] => .nil
  | t :: r => .cons (.ty _) (tys_cls r)

/-! ### items, slices -/
theorem atP_rv {l : List PV} {xs : List V} {i : Int} {p : PV} (h : RVs Z F M H l xs) (e : atP l i = some p) : ∃ v, L2.atI xs i = some v ∧ RV Z F M H p v := by
  unfold atP at e
  unfold L2.atI L2.ixN
  have hl := h.len
  split at e
  · rename_i c
    obtain ⟨v, e1, q⟩ := h.get e
    have hlt : i < (xs.length : Int) := by
      have := (List.getElem?_eq_some_iff.mp e1).1
      omega
    exact ⟨v, by rw [if_pos c, if_pos hlt]; exact e1, q⟩
  · rename_i c
    split at e
    · rename_i c2
      obtain ⟨v, e1, q⟩ := h.get e
      rw [hl] at e1 c2
      exact ⟨v, by rw [if_neg c, if_pos c2]; exact e1, q⟩
    · cases e
theorem find_rv : ∀ {l : List (Key × PV)} {kvs : List (Key × V)} {k : Key} {p : PV}, kvs.map (·.1) = l.map (·.1) → RVs Z F M H (l.map (·.2)) (kvs.map (·.2)) → lookK l k = some p → ∃ v, L2.valV kvs k = some v ∧ RV Z F M H p v
  | [], _, _, _, _, _, e => by simp [lookK] at e
  | (k1, p1) :: r, [], _, _, e1, _, _ => by simp at e1
  | (k1, p1) :: r, (k2, v2) :: s, k, p, e1, h, e => by
    have e2 : k2 = k1 ∧ s.map (·.1) = r.map (·.1) := by simpa using e1
    cases h with
    | cons h1 h2 =>
      by_cases hk : k1 = k
      · have e3 : p1 = p := by simpa [lookK, List.find?_cons, hk] using e
        subst e3
        exact ⟨v2, L2.valV_pos (e2.1.trans hk), h1⟩
      · have e3 : lookK r k = some p := by simpa [lookK, List.find?_cons, hk] using e
        obtain ⟨v, q1, q2⟩ := find_rv e2.2 h2 e3
        refine ⟨v, ?_, q2⟩
        rw [L2.valV_neg (show ¬ (k2, v2).1 = k from fun z => hk (e2.1.symm.trans z))]
        exact q1
theorem keyOf_rv {p : PV} {x : V} {k : Key} (e : keyOf p = some k) (rx : RV Z F M H p x) : x = kV k := by
  cases rx <;> simp [keyOf] at e <;> subst e <;> rfl
/-- x[y] -/
def rIdx (K : PySem.W.Frag) : R2 := fun x y H Q => rIxL K x y H Q ∨ rIxT K x y H Q ∨ rIxS x y H Q ∨ ∃ a v, x = .ref a ∧ DGet H a y (some v) ∧ Q v H
theorem dget_rv (r : Rel Z F M S H) {a : Addr} {l : List (Key × PV)} {kvs : List (Key × V)} {q z : PV} {y : V} {Q : VK} (h1 : H a = some (.dK kvs)) (h2 : kvs.map (·.1) = l.map (·.1)) (h3 : RVs Z F M H (l.map (·.2)) (kvs.map (·.2)))
    (e : (keyOf q).bind (lookK l) = some z) (ry : RV Z F M H q y) (h : Post Z E F (R1 Z F) M H (.ok z S) Q W) : ∃ v, DGet H a y (some v) ∧ Q v H := by
  obtain ⟨k, e1, e2⟩ := Option.bind_eq_some_iff.mp e
  obtain ⟨v, e3, q3⟩ := find_rv h2 h3 e2
  refine ⟨v, .inl ⟨kvs, k, .inl h1, keyOf_rv e1 ry, e3.symm⟩, h.val r q3⟩
theorem zip_map {α β : Type} : ∀ (ks : List α) (l : List β), ks.length = l.length → (ks.zip l).map (·.1) = ks ∧ (ks.zip l).map (·.2) = l
  | [], [], _ => ⟨rfl, rfl⟩
  | [], _ :: _, h => by simp at h
  | _ :: _, [], h => by simp at h
  | k :: ks, x :: l, h => by
    obtain ⟨a, b⟩ := zip_map ks l (by simpa using h)
    exact ⟨by simp [a], by simp [b]⟩
theorem idx_ok {p q z : PV} {x y : V} {Q : VK} (r : Rel Z F M S H) (e : idxV S p q = some z) (rx : RV Z F M H p x) (ry : RV Z F M H q y) (h : Post Z E F (R1 Z F) M H (.ok z S) Q W) : rIdx Z.K x y H Q := by
  cases p with
  | str s =>
    cases rx
    cases q with
    | int i =>
      cases ry
      have e0 : (if s.length ≤ 16000000 ∧ 0 ≤ i then (s.cps[i.toNat]?).map (fun c => PV.str ⟨#[c]⟩) else none) = some z := e
      split at e0
      · rename_i c
        obtain ⟨ch, e1, e2⟩ := Option.map_eq_some_iff.mp e0
        subst e2
        have hlt : i.toNat < s.cps.size := (Array.getElem?_eq_some_iff.mp e1).1
        refine .inr (.inr (.inl ⟨s, i, ch, rfl, rfl, Nat.le_trans c.1 (by decide), ?_, h.val r (.str _)⟩))
        unfold L2.atI L2.ixN
        rw [if_pos c.2, if_pos (by rw [Array.length_toList]; omega)]
        show s.cps.toList[i.toNat]? = some ch
        rw [Array.getElem?_toList]
        exact e1
      · cases e0
    | _ => simp [idxV] at e
  | dct ks l =>
    cases rx with
    | dct h1 h2 h3 h4 h5 =>
      have hl : ks.length = l.length := by rw [h5.len, ← h4, List.length_map, List.length_map]
      obtain ⟨z1, z2⟩ := zip_map ks l hl
      obtain ⟨v, q1, q2⟩ := dget_rv r h1 (l := ks.zip l) (by rw [z1, h4]) (by rw [z2]; exact h5) e ry h
      exact .inr (.inr (.inr ⟨_, v, rfl, q1, q2⟩))
  | ref n =>
    cases rx with
    | ref h1 =>
      cases hk : S[n]? with
      | none => simp [idxV, hk] at e
      | some o =>
        cases o with
        | lst l =>
          obtain ⟨xs, q1, q2⟩ := r.ob n _ _ h1 hk
          cases q with
          | int i =>
            cases ry
            obtain ⟨v, e1, rv⟩ := atP_rv q2 (show atP l i = some z by simpa [idxV, hk] using e)
            exact .inl ⟨_, xs, i, v, rfl, rfl, .inl (.inl q1), e1, h.val r rv⟩
          | _ => simp [idxV, hk] at e
        | dct l =>
          obtain ⟨kvs, q1, q2, q3⟩ := r.ob n _ _ h1 hk
          obtain ⟨v, g1, g2⟩ := dget_rv r q1 q2 q3 (show (keyOf q).bind (lookK l) = some z by simpa [idxV, hk] using e) ry h
          exact .inr (.inr (.inr ⟨_, v, rfl, g1, g2⟩))
  | tup l =>
    cases rx with
    | tup h1 h2 =>
      cases q with
      | int i =>
        cases ry
        obtain ⟨v, e1, rv⟩ := atP_rv h2 (show atP l i = some z from e)
        exact .inr (.inl ⟨_, _, i, v, rfl, rfl, h1, e1, h.val r rv⟩)
      | _ => simp [idxV] at e
  | lst l =>
    cases rx with
    | lst h1 h2 h3 h4 =>
      cases q with
      | int i =>
        cases ry
        obtain ⟨v, e1, rv⟩ := atP_rv h4 (show atP l i = some z from e)
        exact .inl ⟨_, _, i, v, rfl, rfl, .inl h1, e1, h.val r rv⟩
      | _ => simp [idxV] at e
  | _ => simp [idxV] at e
end
end Ev

set_option Elab.async false
set_option linter.all false
set_option maxRecDepth 100000
/-! slices, methods, dicts, what a loop walks, by the evaluator's values -/
namespace Ev
open PySem PySem.Spec PyProof.Rows L2
section
variable {Z : Fx} {E : Ex} {F M : List Addr} {S : Sto} {H : Hp} {W : XK}
theorem cut_rv {l : List PV} {xs : List V} (h : RVs Z F M H l xs) (lo hi : Option Int) : RVs Z F M H (cutP l lo hi) (cutV xs lo hi) := by
  unfold cutP cutV
  rw [h.len]
  exact (h.drop _).take _
theorem cut_whole {xs : List V} {lo hi : Option Int} (h : HT.sIx xs.length 0 lo = 0 ∧ HT.sIx xs.length xs.length hi = xs.length) : cutV xs lo hi = xs := by
  unfold cutV
  rw [h.1, h.2]
  simp
def rSlc (K : PySem.W.Frag) : V → Option Int → Option Int → Hp → VK → Prop := fun x lo hi H Q => C8.rSlX x lo hi H Q ∨ rSlA K x lo hi H Q ∨ rSlL K x lo hi H Q
theorem sl_slc {X : Cx} : L2.SlR X (rSlc X.K) := C8.sl_txt.or (sl_tupA.or sl_list)
theorem slc_ok {m : Bool} {p : PV} {x : V} {lo hi : Option Int} {Q : VK} (r : Rel Z F M S H) (rx : RV Z F M H p x) (h : Post Z E F (R1 Z F) M H (slcR m S p lo hi) Q W) : rSlc Z.K x lo hi H Q := by
  have list : ∀ {p : PV}, RV Z F M H p x → Post Z E F (R1 Z F) M H (match listOf S p with
    | some l => newL m (cutP l lo hi) S
    | none => .bad) Q W → rSlc Z.K x lo hi H Q := fun {p} rx h => by
    cases e : listOf S p with
    | none => rw [e] at h; exact h.elim
    | some l =>
      rw [e] at h
      obtain ⟨a, xs, rfl, q1, q2⟩ := listOf_rv r e rx
      exact .inr (.inr ⟨a, xs, rfl, q2, fun p hp => h.newL r (cut_rv q1 lo hi) hp⟩)
  cases p with
  | str s =>
    cases rx
    unfold slcR at h
    simp only at h
    split at h
    · rename_i c
      exact .inl ⟨s, rfl, Nat.le_trans c (by decide), h.val r (.str _)⟩
    · exact h.elim
  | tup l =>
    cases rx with
    | tup h1 h2 =>
      refine .inr (.inl ⟨_, _, rfl, h1, fun w => ?_, fun _ p hp => ?_⟩)
      · have h3 := cut_rv h2 lo hi
        rw [cut_whole w] at h3
        exact h.val r (.tup h1 h3)
      · exact Post.newT (l := cutP l lo hi) h r (cut_rv h2 lo hi) hp
  | non => exact list rx h
  | bl _ => exact list rx h
  | int _ => exact list rx h
  | lst _ => exact list rx h
  | dct _ _ => exact list rx h
  | err _ _ _ => exact list rx h
  | ref _ => exact list rx h

/-! ### methods -/
def mtT : Mth → String
  | .join => "str"
  | _ => "list"
def mtN : Mth → Str
  | .append => Str.ofString "append" | .pop => Str.ofString "pop" | .popAt => Str.ofString "pop" | .extend => Str.ofString "extend" | .join => Str.ofString "join"
def mtId : Mth → String
  | .append => "list.append" | .pop => "list.pop" | .popAt => "list.pop" | .extend => "list.extend" | .join => "str.join"
theorem extend_tuple (l : Addr) (items : Array Value) (n : Nat) (b : Addr) (items2 : Array Value) (n2 : Nat) (dd : Option Addr) (sl : Array (Option Value)) (hs0 : ¬(!items.isEmpty && Builtin.List.listTooLong (items.size + items2.size)) = true) (hs1 : items.size ≤ sizeLine) (hs2 : items.size + items2.size ≤ sizeLine + 1) :
    Meets (Builtin.«list.extend» ⟨[.ref l, .ref b], []⟩) (fun _ R s => s.heap.get? l = some { cls := .type "list", dict := none, data := .seq items n, slots := #[] } ∧ s.heap.get? b = some { cls := .type "tuple", dict := dd, data := .seq items2 n2, slots := sl } ∧ R (.ok (.ret Value.none)) { s with heap := s.heap.update l (Obj.mapSeq fun x => x ++ items2), toks := s.toks }) :=
  .of_wp fun prog w A R s h => by
    obtain ⟨hp, g, d, tk, os⟩ := s; obtain ⟨hl, hb, h⟩ := h
    have f1 := AutoSeq1.idx_int
    have f2 := AutoSeq1.sub_tuple_tuple
    have f3 := AutoSeq1.sub_list_list
    have f4 := AutoSeq1.sub_tuple_list
    have f5 := AutoSeq1.sub_list_tuple
    have hz' : (items ++ items2).size ≤ sizeLine + 1 := by rw [Array.size_append]; exact hs2
    wp_walk using (wpAny_updateSeq hl rfl (hz := hs1) (_hz' := hz')), AutoSeq1.wpAny_loadPart' hl, AutoSeq1.wpAny_loadPart' hb
    exact ⟨_, rfl, h⟩
def rExtT (K : PySem.W.Frag) : V → List V → Hp → VK → Prop := fun x vs H Q => ∃ l b xs zs, x = .ref l ∧ vs = [.ref b] ∧ H l = some (.lst xs) ∧ SqT K H b zs ∧ xs.length + zs.length ≤ sizeLine ∧ Q .non (upd H l (.lst (xs ++ zs)))
theorem mt_extT {X : Cx} : MtR X "list.extend" (rExtT X.K) := by
  intro pins s σ H x vs v us Q I rx rv h
  obtain ⟨l, b, xs, zs, rfl, rfl, hH, hB, hz, q⟩ := h
  cases rx
  obtain ⟨u, rfl, ru⟩ := rv.one
  cases ru
  obtain ⟨z, its, n, r, hl, e⟩ := I.lstM hH
  obtain ⟨its2, r2, ⟨⟨c, dd, dt, sl⟩, e2, hc, n2, hd⟩, hz2⟩ := I.tuple hB
  replace hc : c = .type "tuple" := hc
  replace hd : dt = .seq its2.toArray n2 := hd
  subst hc hd
  have hl2 := r2.length
  have hsz : its.toArray.size + its2.toArray.size ≤ sizeLine := by rw [List.size_toArray, List.size_toArray]; omega
  have hlong : ¬ (!its.toArray.isEmpty && Builtin.List.listTooLong (its.toArray.size + its2.toArray.size)) = true := by
    rw [notLongL hsz, Bool.and_false]
    exact Bool.false_ne_true
  refine call_meets F.slot_list_extend ⟨_, e, rfl⟩ F.entry_list_extend (F.args_list_extend_2 _ _)
    (extend_tuple l its.toArray n b its2.toArray n2 dd sl hlong (by rw [List.size_toArray]; omega) (by omega)) ⟨e, e2, ?_⟩
  refine ⟨.non, _, I.lset (its' := its ++ its2) hH e (by simp) (r.append r2) ?_, rfl, q⟩
  rw [List.length_append]
  omega
def rMt (K : PySem.W.Frag) : Mth → V → List V → Hp → VK → Prop
  | .append => rAppend
  | .pop => rPop
  | .popAt => rPopAt
  | .extend => fun x xs H Q => rExtend x xs H Q ∨ rExtT K x xs H Q
  | .join => fun x xs H Q => ∃ a p, ∃ ys : List Str, x = .str a ∧ xs = [.ref p] ∧ (SqL K H p (ys.map V.str) ∨ SqT K H p (ys.map V.str)) ∧ (ys.map (·.length)).sum + ys.length * a.length ≤ 16777216 ∧ Q (.str (Txt.join a ys)) H
theorem mt_ok {X : Cx} (k : Mth) : MtR X (mtId k) (rMt X.K k) := by
  cases k with
  | append => exact mt_append
  | pop => exact mt_pop
  | popAt => exact mt_popAt
  | extend => exact MtR.or mt_extend mt_extT
  | join => exact mt_join
theorem mt_plain (k : Mth) : PlainAttrs (mtT k) := by
  cases k with
  | join => exact PySem.F.plainAttrs_str
  | _ => exact PySem.F.plainAttrs_list
theorem mt_slot (k : Mth) : Slot (mtT k) (mtN k) (mtId k) := by
  cases k with
  | append => exact PySem.F.slot_list_append
  | pop => exact PySem.F.slot_list_pop
  | popAt => exact PySem.F.slot_list_pop
  | extend => exact PySem.F.slot_list_extend
  | join => exact PySem.F.slot_str_join
theorem mt_type (k : Mth) : typeOf (.builtin (mtId k)) = pure (.type "method_descriptor") := by
  cases k with
  | append => exact PySem.F.type_list_append
  | pop => exact PySem.F.type_list_pop
  | popAt => exact PySem.F.type_list_pop
  | extend => exact PySem.F.type_list_extend
  | join => exact PySem.F.type_str_join
theorem mty_ok {k : Mth} {p : PV} {x : V} (r : Rel Z F M S H) (e : mTy S k p = true) (rx : RV Z F M H p x) : tyV Z.K (mtT k) x H := by
  have list : (listOf S p).isSome = true → tyV Z.K "list" x H := fun e => by
    obtain ⟨l, e⟩ := Option.isSome_iff_exists.mp e
    obtain ⟨a, xs, rfl, q1, q2⟩ := listOf_rv r e rx
    exact .inl ⟨rfl, xs, q2⟩
  cases k with
  | join =>
    cases p <;> simp [mTy] at e
    cases rx
    rfl
  | append => exact list e
  | pop => exact list e
  | popAt => exact list e
  | extend => exact list e
theorem RVs.two {p q : PV} {xs : List V} (h : RVs Z F M H [p, q] xs) : ∃ x y, xs = [x, y] ∧ RV Z F M H p x ∧ RV Z F M H q y := by
  cases h with
  | cons a b =>
    cases b with
    | cons c d =>
      cases d
      exact ⟨_, _, rfl, a, c⟩
theorem RVs.sing {p : PV} {xs : List V} (h : RVs Z F M H [p] xs) : ∃ x, xs = [x] ∧ RV Z F M H p x := by
  cases h with
  | cons a b =>
    cases b
    exact ⟨_, rfl, a⟩
theorem RVs.nop {xs : List V} (h : RVs Z F M H [] xs) : xs = [] := by
  cases h; rfl
theorem RVs.dropLast : ∀ {l : List PV} {xs : List V}, RVs Z F M H l xs → RVs Z F M H l.dropLast xs.dropLast
  | _, _, .nil => .nil
  | [_], _, .cons _ h2 => by
    cases h2
    exact .nil
  | _ :: _ :: _, _, .cons h1 h2 => by
    cases h2 with
    | cons h2 h3 => exact .cons h1 (RVs.dropLast (.cons h2 h3))
theorem RVs.erase : ∀ {l : List PV} {xs : List V} (i : Nat), RVs Z F M H l xs → RVs Z F M H (l.eraseIdx i) (xs.eraseIdx i)
  | _, _, _, .nil => .nil
  | _ :: _, _, 0, .cons _ h2 => h2
  | _ :: _, _, i + 1, .cons h1 h2 => .cons h1 (RVs.erase i h2)
/-- a store's list written -/
theorem Post.setL {n : Nat} {a : Addr} {l : List PV} {xs : List V} {v : PV} {u : V} {Q : VK} (h : Post Z E F (R1 Z F) M H (.ok v (S.set n (.lst l))) Q W) (r : Rel Z F M S H) (h1 : M[n]? = some a) (q : RVs Z F M H l xs) (qu : RV Z F M H v u) : Q u (upd H a (.lst xs)) := by
  obtain ⟨r2, x⟩ := r.put (o := .lst xs) (so := .lst l) h1 fun x => ⟨xs, upd_same, RVs.mono r x q⟩
  exact h M _ _ x r2 (RV.mono r x qu)
theorem ref_lst {n : Nat} {l : List PV} {x : V} (r : Rel Z F M S H) (rx : RV Z F M H (.ref n) x) (e : S[n]? = some (.lst l)) : ∃ a xs, x = .ref a ∧ M[n]? = some a ∧ H a = some (.lst xs) ∧ RVs Z F M H l xs := by
  cases rx with
  | ref h1 =>
    obtain ⟨xs, q1, q2⟩ := r.ob n _ _ h1 e
    exact ⟨_, xs, rfl, h1, q1, q2⟩
theorem meth_ok {k : Mth} {p : PV} {ps : List PV} {x : V} {xs : List V} {Q : VK} (r : Rel Z F M S H) (rx : RV Z F M H p x) (rs : RVs Z F M H ps xs) (h : Post Z E F (R1 Z F) M H (methV k p ps S) Q W) : rMt Z.K k x xs H Q := by
  unfold methV at h
  split at h
  · rename_i n v
    split at h
    · rename_i l e
      split at h
      · rename_i c
        obtain ⟨a, ys, rfl, h1, h2, h3⟩ := ref_lst r rx e
        obtain ⟨y, rfl, ry⟩ := rs.sing
        refine ⟨a, ys, y, rfl, rfl, h2, ?_, h.setL r h1 (h3.app (.one ry)) .non⟩
        rw [← h3.len]
        exact Nat.lt_of_lt_of_le c (by decide)
      · exact h.elim
    · exact h.elim
  · rename_i n v
    split at h
    · rename_i l e
      obtain ⟨a, ys, rfl, h1, h2, h3⟩ := ref_lst r rx e
      split at h
      · rename_i t
        split at h
        · rename_i c
          obtain ⟨y, rfl, ry⟩ := rs.sing
          cases ry with
          | tup g1 g2 =>
            refine .inr ⟨a, _, ys, _, rfl, rfl, h2, g1, ?_, h.setL r h1 (h3.app g2) .non⟩
            rw [← h3.len, ← g2.len]
            exact Nat.le_trans c (by decide)
        · exact h.elim
      · rename_i m
        split at h
        · rename_i t e2
          split at h
          · rename_i c
            obtain ⟨y, rfl, ry⟩ := rs.sing
            obtain ⟨b, zs, rfl, g1, g2, g3⟩ := ref_lst r ry e2
            refine .inl ⟨a, b, ys, zs, rfl, rfl, h2, g2, ?_, h.setL r h1 (h3.app g3) .non⟩
            rw [← h3.len, ← g3.len]
            exact Nat.le_trans c (by decide)
          · exact h.elim
        · exact h.elim
      · exact h.elim
    · exact h.elim
  · rename_i n
    split at h
    · rename_i l e
      split at h
      · rename_i y e2
        obtain ⟨a, ys, rfl, h1, h2, h3⟩ := ref_lst r rx e
        obtain rfl := rs.nop
        obtain ⟨v, e3, rv⟩ := h3.get e2
        rw [h3.len] at e3
        exact ⟨a, ys, v, rfl, rfl, h2, e3, h.setL r h1 h3.dropLast rv⟩
      · exact h.elim
    · exact h.elim
  · rename_i n i
    split at h
    · rename_i l e
      split at h
      · rename_i c
        split at h
        · rename_i y e2
          obtain ⟨a, ys, rfl, h1, h2, h3⟩ := ref_lst r rx e
          obtain ⟨w, rfl, rw'⟩ := rs.sing
          cases rw'
          obtain ⟨v, e3, rv⟩ := h3.get e2
          have hlt := (List.getElem?_eq_some_iff.mp e3).1
          refine ⟨a, ys, i, i.toNat, v, rfl, rfl, h2, by omega, c.2, ?_, e3, h.setL r h1 (h3.erase _) rv⟩
          exact seqIndex_of c.1 (by omega)
        · exact h.elim
      · exact h.elim
    · exact h.elim
  · rename_i z v
    split at h
    · rename_i ys e
      split at h
      · rename_i c
        obtain ⟨l, e1, e2⟩ := Option.bind_eq_some_iff.mp e
        obtain ⟨w, rfl, rw'⟩ := rs.sing
        obtain ⟨a, xs, rfl, q1, q2⟩ := itemsOf_rv r e1 rw'
        have e3 := allStrs_rv e2 q1
        subst e3
        cases rx
        exact ⟨z, a, ys, rfl, rfl, q2, c, h.val r (.str _)⟩
      · exact h.elim
    · exact h.elim
  · exact h.elim

/-! ### dicts -/
theorem put_rv : ∀ {l : List (Key × PV)} {kvs : List (Key × V)} {k : Key} {p : PV} {v : V}, kvs.map (·.1) = l.map (·.1) → RVs Z F M H (l.map (·.2)) (kvs.map (·.2)) → RV Z F M H p v →
    (L2.putK kvs k v).map (·.1) = (putK l k p).map (·.1) ∧ RVs Z F M H ((putK l k p).map (·.2)) ((L2.putK kvs k v).map (·.2)) := by
  intro l kvs k p v e h hv
  have any : ∀ {l : List (Key × PV)} {kvs : List (Key × V)}, kvs.map (·.1) = l.map (·.1) → (kvs.any fun kv => decide (kv.1 = k)) = l.any fun p => decide (p.1 = k) := fun {l kvs} e => by
    have h1 : (kvs.any fun kv => decide (kv.1 = k)) = (kvs.map (·.1)).any fun x => decide (x = k) := by rw [List.any_map]; rfl
    have h2 : (l.any fun kv => decide (kv.1 = k)) = (l.map (·.1)).any fun x => decide (x = k) := by rw [List.any_map]; rfl
    rw [h1, h2, e]
  have mp : ∀ {l : List (Key × PV)} {kvs : List (Key × V)}, kvs.map (·.1) = l.map (·.1) → RVs Z F M H (l.map (·.2)) (kvs.map (·.2)) →
      (kvs.map fun kv => if kv.1 = k then (kv.1, v) else kv).map (·.1) = (l.map fun q => if q.1 = k then (k, p) else q).map (·.1) ∧ RVs Z F M H ((l.map fun q => if q.1 = k then (k, p) else q).map (·.2)) ((kvs.map fun kv => if kv.1 = k then (kv.1, v) else kv).map (·.2)) := fun {l kvs} => by
    induction l generalizing kvs with
    | nil =>
      intro e h
      cases kvs with
      | nil => exact ⟨rfl, .nil⟩
      | cons a b => simp at e
    | cons q l ih =>
      intro e h
      cases kvs with
      | nil => simp at e
      | cons a b =>
        have e2 : a.1 = q.1 ∧ b.map (·.1) = l.map (·.1) := by simpa using e
        cases h with
        | cons g1 g2 =>
          obtain ⟨i1, i2⟩ := ih e2.2 g2
          by_cases hk : q.1 = k
          · have hk2 : a.1 = k := e2.1.trans hk
            simp only [List.map_cons, if_pos hk, if_pos hk2]
            exact ⟨by rw [i1, hk2], .cons hv i2⟩
          · have hk2 : ¬ a.1 = k := fun z => hk (e2.1.symm.trans z)
            simp only [List.map_cons, if_neg hk, if_neg hk2]
            exact ⟨by rw [i1, e2.1], .cons g1 i2⟩
  unfold putK L2.putK
  rw [any e]
  split
  · exact mp e h
  · refine ⟨by simp [e], ?_⟩
    rw [List.map_append, List.map_append]
    exact h.app (.one hv)
theorem sub_ok {p q : PV} {w : PV} {x y v : V} {S' : Sto} (r : Rel Z F M S H) (rx : RV Z F M H p x) (ry : RV Z F M H q y) (rv : RV Z F M H w v) (e : subV p q w S = some S') : ∃ a H', x = .ref a ∧ DPut H a y v H' ∧ Rel Z F M S' H' ∧ Ext M H M H' := by
  unfold subV at e
  split at e
  · rename_i n
    split at e
    · rename_i l e1
      obtain ⟨k, e2, e3⟩ := Option.bind_eq_some_iff.mp e
      split at e3
      · rename_i c
        cases e3
        cases rx with
        | @ref _ a h1 =>
          obtain ⟨kvs, q1, q2, q3⟩ := r.ob n _ _ h1 e1
          have ey := keyOf_rv e2 ry
          subst ey
          have hl : kvs.length = l.length := by
            have := congrArg List.length q2
            simpa using this
          obtain ⟨z1, z2⟩ := put_rv (k := k) q2 q3 rv
          obtain ⟨r2, x⟩ := r.put (o := .dK (L2.putK kvs k v)) (so := .dct (putK l k w)) h1 fun x => ⟨_, upd_same, z1, RVs.mono r x z2⟩
          exact ⟨a, _, rfl, DPut.k q1 (by rw [hl]; exact Nat.lt_of_lt_of_le c (by decide)), r2, x⟩
      · cases e3
    · cases e
  · cases e
theorem putK_new {kvs : List (Key × V)} {k : Key} {v : V} (h : k ∉ kvs.map (·.1)) : L2.putK kvs k v = kvs ++ [(k, v)] := by
  unfold L2.putK
  rw [if_neg]
  simp only [List.any_eq_true, decide_eq_true_eq, not_exists, not_and]
  exact fun p hp e => h (List.mem_map.mpr ⟨p, hp, e⟩)
theorem mergeK_new : ∀ {more kvs : List (Key × V)}, ((kvs ++ more).map (·.1)).Nodup → mergeK kvs more = kvs ++ more
  | [], kvs, _ => by simp [mergeK]
  | p :: r, kvs, h => by
    have hp : p.1 ∉ kvs.map (·.1) := fun z => by
      rw [List.map_append, List.map_cons] at h
      exact (List.nodup_append.mp h).2.2 _ z _ (by simp) rfl
    show mergeK (L2.putK kvs p.1 p.2) r = kvs ++ p :: r
    rw [putK_new hp, mergeK_new (by simpa [List.append_assoc] using h)]
    simp
end
end Ev

set_option Elab.async false
set_option linter.all false
set_option maxRecDepth 100000
/-! loops and comprehensions beside the evaluator's -/
namespace Ev
open PySem PySem.Spec PyProof.Rows L2
section
variable {Z : Fx} {E : Ex} {F M M' : List Addr} {S : Sto} {H H' : Hp} {W : XK} {D : Addr}
/-! ### a list that grows, kept apart -/
theorem sqT_ne {K : PySem.W.Frag} {a : Addr} {xs : List V} {o : HO} (h : SqT K H a xs) (hD : H D = none) : SqT K (upd H D o) a xs := by
  rcases h with (h | ⟨ob, h⟩) | h
  · exact .inl (.inl (by rw [upd_ne (ne_of_none h hD)]; exact h))
  · exact .inl (.inr ⟨ob, by rw [upd_ne (ne_of_none h hD)]; exact h⟩)
  · exact .inr h
theorem rd_ne {a : Addr} {u o : HO} (h : Rd H a u) (hD : H D = none) : Rd (upd H D o) a u ∧ a ≠ D := by
  rcases h with h | ⟨ob, h⟩
  · exact ⟨.inl (by rw [upd_ne (ne_of_none h hD)]; exact h), ne_of_none h hD⟩
  · exact ⟨.inr ⟨ob, by rw [upd_ne (ne_of_none h hD)]; exact h⟩, ne_of_none h hD⟩
mutual
theorem RV.addF {o : HO} (hD : H D = none) : ∀ {p : PV} {v : V}, RV Z F M H p v → RV Z (D :: F) M (upd H D o) p v
  | .non, _, h => by cases h; exact .non
  | .bl _, _, h => by cases h; exact .bl _
  | .int _, _, h => by cases h; exact .int _
  | .str _, _, h => by cases h; exact .str _
  | .tup l, _, h => by
    cases h with
    | tup h1 h2 => exact .tup (sqT_ne h1 hD) (RVs.addF hD h2)
  | .lst l, _, h => by
    cases h with
    | lst h1 h2 h3 h4 => exact .lst (rd_ne h1 hD).1 (by simp only [List.mem_cons, not_or]; exact ⟨(rd_ne (o := o) h1 hD).2, h2⟩) h3 (RVs.addF hD h4)
  | .dct ks l, _, h => by
    cases h with
    | dct h1 h2 h3 h4 h5 => exact .dct (by rw [upd_ne (ne_of_none h1 hD)]; exact h1) (by simp only [List.mem_cons, not_or]; exact ⟨ne_of_none h1 hD, h2⟩) h3 h4 (RVs.addF hD h5)
  | .ref n, _, h => by
    cases h with
    | ref h1 => exact .ref h1
  | .err _ _ _, _, h => by cases h
theorem RVs.addF {o : HO} (hD : H D = none) : ∀ {p : List PV} {v : List V}, RVs Z F M H p v → RVs Z (D :: F) M (upd H D o) p v
  | [], _, h => by cases h; exact .nil
  | _ :: _, _, h => by
    cases h with
    | cons h1 h2 => exact .cons (RV.addF hD h1) (RVs.addF hD h2)
end
mutual
theorem RV.subF : ∀ {p : PV} {v : V}, RV Z (D :: F) M H p v → RV Z F M H p v
  | .non, _, h => by cases h; exact .non
  | .bl _, _, h => by cases h; exact .bl _
  | .int _, _, h => by cases h; exact .int _
  | .str _, _, h => by cases h; exact .str _
  | .tup l, _, h => by
    cases h with
    | tup h1 h2 => exact .tup h1 (RVs.subF h2)
  | .lst l, _, h => by
    cases h with
    | lst h1 h2 h3 h4 => exact .lst h1 (fun z => h2 (List.mem_cons_of_mem _ z)) h3 (RVs.subF h4)
  | .dct ks l, _, h => by
    cases h with
    | dct h1 h2 h3 h4 h5 => exact .dct h1 (fun z => h2 (List.mem_cons_of_mem _ z)) h3 h4 (RVs.subF h5)
  | .ref n, _, h => by
    cases h with
    | ref h1 => exact .ref h1
  | .err _ _ _, _, h => by cases h
theorem RVs.subF : ∀ {p : List PV} {v : List V}, RVs Z (D :: F) M H p v → RVs Z F M H p v
  | [], _, h => by cases h; exact .nil
  | _ :: _, _, h => by
    cases h with
    | cons h1 h2 => exact .cons (RV.subF h1) (RVs.subF h2)
end
mutual
/-- the list at D joins the store -/
theorem RV.adopt : ∀ {p : PV} {v : V}, RV Z (D :: F) M H p v → RV Z F (M ++ [D]) H p v
  | .non, _, h => by cases h; exact .non
  | .bl _, _, h => by cases h; exact .bl _
  | .int _, _, h => by cases h; exact .int _
  | .str _, _, h => by cases h; exact .str _
  | .tup l, _, h => by
    cases h with
    | tup h1 h2 => exact .tup h1 (RVs.adopt h2)
  | .lst l, _, h => by
    cases h with
    | lst h1 h2 h3 h4 => exact .lst h1 (fun z => h2 (List.mem_cons_of_mem _ z)) (fun z => by
        rcases List.mem_append.mp z with z | z
        · exact h3 z
        · exact h2 (by rw [List.mem_singleton.mp z]; exact List.mem_cons_self ..)) (RVs.adopt h4)
  | .dct ks l, _, h => by
    cases h with
    | dct h1 h2 h3 h4 h5 => exact .dct h1 (fun z => h2 (List.mem_cons_of_mem _ z)) (fun z => by
        rcases List.mem_append.mp z with z | z
        · exact h3 z
        · exact h2 (by rw [List.mem_singleton.mp z]; exact List.mem_cons_self ..)) h4 (RVs.adopt h5)
  | .ref n, _, h => by
    cases h with
    | ref h1 => exact .ref (by rw [List.getElem?_append_left (List.getElem?_eq_some_iff.mp h1).1]; exact h1)
  | .err _ _ _, _, h => by cases h
theorem RVs.adopt : ∀ {p : List PV} {v : List V}, RVs Z (D :: F) M H p v → RVs Z F (M ++ [D]) H p v
  | [], _, h => by cases h; exact .nil
  | _ :: _, _, h => by
    cases h with
    | cons h1 h2 => exact .cons (RV.adopt h1) (RVs.adopt h2)
end
theorem sqT_over {K : PySem.W.Frag} {a : Addr} {xs acc : List V} {o : HO} (h : SqT K H a xs) (hD : H D = some (.lst acc)) : SqT K (upd H D o) a xs := by
  rcases h with (h | ⟨ob, h⟩) | h
  · exact .inl (.inl (by rw [upd_ne (fun e => by rw [e, hD] at h; cases h)]; exact h))
  · exact .inl (.inr ⟨ob, by rw [upd_ne (fun e => by rw [e, hD] at h; cases h)]; exact h⟩)
  · exact .inr h
mutual
/-- the list at D is written -/
theorem RV.over {acc : List V} {o : HO} (hD : H D = some (.lst acc)) : ∀ {p : PV} {v : V}, RV Z (D :: F) M H p v → RV Z (D :: F) M (upd H D o) p v
  | .non, _, h => by cases h; exact .non
  | .bl _, _, h => by cases h; exact .bl _
  | .int _, _, h => by cases h; exact .int _
  | .str _, _, h => by cases h; exact .str _
  | .tup l, _, h => by
    cases h with
    | tup h1 h2 => exact .tup (sqT_over h1 hD) (RVs.over hD h2)
  | .lst l, _, h => by
    cases h with
    | @lst a _ _ h1 h2 h3 h4 =>
      have ne : a ≠ D := fun e => h2 (by rw [e]; exact List.mem_cons_self ..)
      exact .lst (by unfold Rd; rw [upd_ne ne]; exact h1) h2 h3 (RVs.over hD h4)
  | .dct ks l, _, h => by
    cases h with
    | @dct a _ _ _ h1 h2 h3 h4 h5 =>
      have ne : a ≠ D := fun e => h2 (by rw [e]; exact List.mem_cons_self ..)
      exact .dct (by rw [upd_ne ne]; exact h1) h2 h3 h4 (RVs.over hD h5)
  | .ref n, _, h => by
    cases h with
    | ref h1 => exact .ref h1
  | .err _ _ _, _, h => by cases h
theorem RVs.over {acc : List V} {o : HO} (hD : H D = some (.lst acc)) : ∀ {p : List PV} {v : List V}, RVs Z (D :: F) M H p v → RVs Z (D :: F) M (upd H D o) p v
  | [], _, h => by cases h; exact .nil
  | _ :: _, _, h => by
    cases h with
    | cons h1 h2 => exact .cons (RV.over hD h1) (RVs.over hD h2)
end
theorem ObR.to {F' M' : List Addr} {H' : Hp} (g : ∀ {l : List PV} {xs : List V}, RVs Z F M H l xs → RVs Z F' M' H' l xs) {a : Addr} {o : SO} (h : ObR Z F M H a o) (e : H' a = H a) : ObR Z F' M' H' a o := by
  cases o with
  | lst l =>
    obtain ⟨xs, h1, h2⟩ := h
    exact ⟨xs, e.trans h1, g h2⟩
  | dct l =>
    obtain ⟨kvs, h1, h2, h3⟩ := h
    exact ⟨kvs, e.trans h1, h2, g h3⟩
theorem Rel.addF (r : Rel Z F M S H) (hD : H D = none) : Rel Z (D :: F) M S (upd H D (.lst [])) := by
  obtain ⟨n1, n2⟩ := notIn_fresh r hD
  have ne : ∀ a, a ∈ M → a ≠ D := fun a h e => n2 (e ▸ h)
  refine ⟨r.len, r.nd, fun n a o h1 h2 => (r.ob n a o h1 h2).to (RVs.addF hD) (upd_ne (ne a (List.mem_of_getElem? h1))), fun a ha => ?_, fun a ha => ?_, tabs_upd r.tabs (fun ps e => by rw [hD] at e; cases e) (fun c q e => by rw [hD] at e; cases e)⟩
  · rcases List.mem_cons.mp ha with e | ha
    · rw [e]; exact n2
    · exact r.dis a ha
  · rcases List.mem_cons.mp ha with e | ha
    · exact ⟨_, by rw [e]; exact upd_same, (fun _ z => by cases z)⟩
    · obtain ⟨u, e, t⟩ := r.there a ha
      exact ⟨u, by rw [upd_ne (ne_of_none e hD)]; exact e, t⟩
theorem Rel.over {acc acc' : List V} (r : Rel Z (D :: F) M S H) (hD : H D = some (.lst acc)) : Rel Z (D :: F) M S (upd H D (.lst acc')) := by
  have n2 : D ∉ M := r.dis D (List.mem_cons_self ..)
  have ne : ∀ a, a ∈ M → a ≠ D := fun a h e => n2 (e ▸ h)
  refine ⟨r.len, r.nd, fun n a o h1 h2 => (r.ob n a o h1 h2).to (RVs.over hD) (upd_ne (ne a (List.mem_of_getElem? h1))), r.dis, fun a ha => ?_, tabs_upd r.tabs (fun ps e => by rw [hD] at e; cases e) (fun c q e => by
    rw [hD] at e
    unfold LamX.CodeO at e
    cases e)⟩
  by_cases e : a = D
  · exact ⟨_, by rw [e]; exact upd_same, (fun _ z => by cases z)⟩
  · obtain ⟨u, h1, t⟩ := r.there a ha
    exact ⟨u, by rw [upd_ne e]; exact h1, t⟩
theorem Rel.subF (r : Rel Z (D :: F) M S H) : Rel Z F M S H :=
  ⟨r.len, r.nd, fun n a o h1 h2 => (r.ob n a o h1 h2).to RVs.subF rfl, fun a ha => r.dis a (List.mem_cons_of_mem _ ha), fun a ha => r.there a (List.mem_cons_of_mem _ ha), r.tabs⟩
theorem Rel.adopt {l : List PV} {xs : List V} (r : Rel Z (D :: F) M S H) (nF : D ∉ F) (hD : H D = some (.lst xs)) (q : RVs Z (D :: F) M H l xs) : Rel Z F (M ++ [D]) (S ++ [.lst l]) H := by
  have n2 : D ∉ M := r.dis D (List.mem_cons_self ..)
  refine ⟨by simp [r.len], List.nodup_append.mpr ⟨r.nd, by simp, fun a h b hb e => ?_⟩, fun n a o h1 h2 => ?_, fun a ha hm => ?_, fun a ha => r.there a (List.mem_cons_of_mem _ ha), r.tabs⟩
  · rw [List.mem_singleton.mp hb] at e
    exact n2 (e ▸ h)
  · by_cases hn : n < M.length
    · rw [List.getElem?_append_left hn] at h1
      rw [List.getElem?_append_left (by rw [← r.len]; exact hn)] at h2
      exact (r.ob n a o h1 h2).to RVs.adopt rfl
    · have e1 : n = M.length := by
        have := (List.getElem?_eq_some_iff.mp h1).1
        simp at this
        omega
      rw [e1, List.getElem?_append_right (Nat.le_refl _), Nat.sub_self] at h1
      rw [e1, r.len, List.getElem?_append_right (Nat.le_refl _), Nat.sub_self] at h2
      have e2 : D = a := by simpa using h1
      have e3 : SO.lst l = o := by simpa using h2
      rw [← e2, ← e3]
      exact ⟨xs, hD, RVs.adopt q⟩
  · rcases List.mem_append.mp hm with h | h
    · exact r.dis a (List.mem_cons_of_mem _ ha) h
    · rw [List.mem_singleton.mp h] at ha
      exact nF ha
theorem SlR.addF {σp : Sl} {σ : L2.St} {o : HO} (h : SlR Z F M H σp σ) (hD : H D = none) : SlR Z (D :: F) M (upd H D o) σp σ := ⟨h.len, fun i p e => let ⟨v, e1, q⟩ := h.at_ i p e; ⟨v, e1, RV.addF hD q⟩⟩
theorem SlR.over {σp : Sl} {σ : L2.St} {acc : List V} {o : HO} (h : SlR Z (D :: F) M H σp σ) (hD : H D = some (.lst acc)) : SlR Z (D :: F) M (upd H D o) σp σ := ⟨h.len, fun i p e => let ⟨v, e1, q⟩ := h.at_ i p e; ⟨v, e1, RV.over hD q⟩⟩
/-- from ahead of the list -/
theorem Ext.past {M1 : List Addr} {H1 : Hp} {o : HO} (x : Ext M1 H1 M H) (hD : H1 D = none) : Ext M1 H1 M (upd H D o) :=
  ⟨x.pre, x.new, fun a u h1 h2 h3 => by rw [upd_ne (ne_of_none h1 hD)]; exact x.keep a u h1 h2 h3, fun a xs h1 => by rw [upd_ne (ne_of_none h1 hD)]; exact x.tup a xs h1, fun a h => by
    by_cases e : a = D
    · rw [e]; exact hD
    · rw [upd_ne e] at h; exact x.fre a h⟩
theorem Ext.adopt {M1 : List Addr} {H1 : Hp} (x : Ext M1 H1 M H) (hD : H1 D = none) : Ext M1 H1 (M ++ [D]) H := by
  obtain ⟨N, e⟩ := x.pre
  refine ⟨⟨N ++ [D], by rw [e, List.append_assoc]⟩, fun a h => ?_, x.keep, x.tup, x.fre⟩
  rcases List.mem_append.mp h with h | h
  · exact x.new a h
  · rw [List.mem_singleton.mp h]; exact .inr hD

/-! ### targets -/
def gNames : List Nat → TGs
  | [] => gNil
  | i :: is => gCons (gName i) (gNames is)
def gT (K : PySem.W.Frag) : Tg → TG
  | .one i => gName i
  | .many is => gTup K is.length (gNames is)
def setV : List Nat → List V → L2.St → L2.St
  | i :: is, v :: vs, σ => setV is vs (σ.set i (some v))
  | _, _, σ => σ
theorem gNames_ok {Q : L2.St → Hp → Prop} : ∀ {is : List Nat} {vs : List V} {σ : L2.St}, vs.length = is.length → Q (setV is vs σ) H → gNames is vs σ H Q
  | [], [], _, _, h => ⟨rfl, h⟩
  | [], _ :: _, _, e, _ => by simp at e
  | _ :: _, [], _, e, _ => by simp at e
  | i :: is, v :: vs, σ, e, h => ⟨v, vs, rfl, gNames_ok (by simpa using e) h⟩
theorem setV_sl : ∀ {is : List Nat} {ps : List PV} {vs : List V} {σp : Sl} {σ : L2.St}, RVs Z F M H ps vs → SlR Z F M H σp σ → SlR Z F M H ((is.zip ps).foldl (fun σ p => σ.set p.1 (some p.2)) σp) (setV is vs σ)
  | [], _, _, _, _, _, h => h
  | _ :: _, [], _, _, _, r, h => by cases r; exact h
  | i :: is, p :: ps, _, _, _, r, h => by
    cases r with
    | cons r1 r2 => exact setV_sl (is := is) r2 (h.set r1)
theorem wipe_out {σ σ' : L2.St} {vs : List Nat} (hl : σ.length = σ'.length) (h : ∀ i, i ∉ vs → σ[i]? = σ'[i]?) : wipe σ vs = wipe σ' vs := by
  induction vs generalizing σ σ' with
  | nil => exact List.ext_getElem? fun i => h i (by simp)
  | cons v vs ih =>
    have key : ∀ (σ : L2.St) (vs : List Nat) (i : Nat), (wipe σ vs)[i]? = if i ∈ vs ∧ i < σ.length then some none else σ[i]? := by
      intro σ vs i
      induction vs with
      | nil => simp [wipe]
      | cons w ws ih2 =>
        unfold wipe
        by_cases e : w = i
        · subst e
          by_cases hw : w < σ.length
          · rw [List.getElem?_set_self (by rw [wipe_length]; exact hw), if_pos ⟨List.mem_cons_self .., hw⟩]
          · rw [List.getElem?_eq_none (by rw [List.length_set, wipe_length]; omega), if_neg (by omega), List.getElem?_eq_none (by omega)]
        · rw [List.getElem?_set_ne e, ih2]
          have e3 : (i ∈ w :: ws) ↔ i ∈ ws := by simp [List.mem_cons, Ne.symm e]
          simp only [e3]
    refine List.ext_getElem? fun i => ?_
    rw [key, key]
    by_cases c : i ∈ v :: vs
    · by_cases c2 : i < σ.length
      · rw [if_pos ⟨c, c2⟩, if_pos ⟨c, by omega⟩]
      · rw [if_neg (by omega), if_neg (by omega), List.getElem?_eq_none (by omega), List.getElem?_eq_none (by omega)]
    · rw [if_neg (fun z => c z.1), if_neg (fun z => c z.1)]
      exact h i c
theorem wipe_in (σ : L2.St) (vs : List Nat) : ∀ i, i ∉ vs → (wipe σ vs)[i]? = σ[i]? := by
  induction vs with
  | nil => intro i _; rfl
  | cons w ws ih =>
    intro i hi
    unfold wipe
    have e : w ≠ i := fun e => hi (by rw [e]; exact List.mem_cons_self ..)
    rw [List.getElem?_set_ne e]
    exact ih i fun z => hi (List.mem_cons_of_mem _ z)
theorem setV_out : ∀ {is : List Nat} {vs : List V} {σ : L2.St} {i : Nat}, i ∉ is → (setV is vs σ)[i]? = σ[i]?
  | [], _, _, _, _ => by rfl
  | _ :: _, [], _, _, _ => by rfl
  | j :: is, v :: vs, σ, i, h => by
    show (setV is vs (σ.set j (some v)))[i]? = _
    rw [setV_out (fun z => h (List.mem_cons_of_mem _ z)), List.getElem?_set_ne (fun e => h (by rw [e]; exact List.mem_cons_self ..))]
theorem setV_len : ∀ {is : List Nat} {vs : List V} {σ : L2.St}, (setV is vs σ).length = σ.length
  | [], _, _ => by rfl
  | _ :: _, [], _ => by rfl
  | j :: is, v :: vs, σ => by
    show (setV is vs (σ.set j (some v))).length = _
    rw [setV_len, List.length_set]
def tgIs : Tg → List Nat
  | .one i => [i]
  | .many is => is
/-- a target takes a value -/
theorem tg_ok {tg : Tg} {p : PV} {x : V} {σp σp' : Sl} {σ : L2.St} {Q : L2.St → Hp → Prop} (hs : SlR Z F M H σp σ) (rx : RV Z F M H p x) (e : setTg tg p σp = some σp')
    (h : ∀ vs : List V, SlR Z F M H σp' (setV (tgIs tg) vs σ) → Q (setV (tgIs tg) vs σ) H) : gT Z.K tg x σ H Q := by
  cases tg with
  | one i =>
    have e2 : σp.set i (some p) = σp' := Option.some.inj e
    exact h [x] (by rw [← e2]; exact hs.set rx)
  | many is =>
    cases p with
    | tup l =>
      have e0 : (if l.length = is.length then some ((is.zip l).foldl (fun σ p => σ.set p.1 (some p.2)) σp) else none) = some σp' := e
      split at e0
      · rename_i c
        cases rx with
        | tup h1 h2 =>
          cases e0
          refine ⟨_, _, rfl, h1, by rw [← h2.len]; exact c, gNames_ok (by rw [← h2.len]; exact c) (h _ (setV_sl h2 hs))⟩
      · cases e0
    | _ => simp [setTg] at e

/-! ### what is walked -/
structure Wk (Z : Fx) (F : List Addr) (w : Walk) (M0 : List Addr) (H0 : Hp) (J : It) : Prop where
  stop : ∀ F' M S H i, Ext M0 H0 M H → Rel Z F' M S H → stays S w = true → w.1.length ≤ i → J.stop i H
  go : ∀ F' M S H i, Ext M0 H0 M H → Rel Z F' M S H → stays S w = true → i < w.1.length → J.go i H
  yld : ∀ F' M S H i p x H', Ext M0 H0 M H → Rel Z F' M S H → (∀ a ∈ F', a ∈ F ∨ H0 a = none) → stays S w = true → w.1[i]? = some p → J.yld i H x H' → Ext M H M H' ∧ Rel Z F' M S H' ∧ RV Z F' M H' p x
mutual
theorem RV.toF {F' : List Addr} {H0 : Hp} (hF : ∀ a ∈ F', a ∈ F ∨ H0 a = none) : ∀ {p : PV} {v : V}, RV Z F M H0 p v → RV Z F' M H0 p v
  | .non, _, h => by cases h; exact .non
  | .bl _, _, h => by cases h; exact .bl _
  | .int _, _, h => by cases h; exact .int _
  | .str _, _, h => by cases h; exact .str _
  | .tup l, _, h => by
    cases h with
    | tup h1 h2 => exact .tup h1 (RVs.toF hF h2)
  | .lst l, _, h => by
    cases h with
    | lst h1 h2 h3 h4 => exact .lst h1 (fun z => by
        rcases hF _ z with z | z
        · exact h2 z
        · rcases h1 with h1 | ⟨o, h1⟩ <;> (rw [z] at h1; cases h1)) h3 (RVs.toF hF h4)
  | .dct ks l, _, h => by
    cases h with
    | dct h1 h2 h3 h4 h5 => exact .dct h1 (fun z => by
        rcases hF _ z with z | z
        · exact h2 z
        · rw [z] at h1; cases h1) h3 h4 (RVs.toF hF h5)
  | .ref n, _, h => by
    cases h with
    | ref h1 => exact .ref h1
  | .err _ _ _, _, h => by cases h
theorem RVs.toF {F' : List Addr} {H0 : Hp} (hF : ∀ a ∈ F', a ∈ F ∨ H0 a = none) : ∀ {p : List PV} {v : List V}, RVs Z F M H0 p v → RVs Z F' M H0 p v
  | [], _, h => by cases h; exact .nil
  | _ :: _, _, h => by
    cases h with
    | cons h1 h2 => exact .cons (RV.toF hF h1) (RVs.toF hF h2)
end
theorem Ext.sqTL (x : Ext M H M' H') (lk : ∀ a ob u, H a = some (.frz ob u) → a ∉ M) {a : Addr} {xs : List V} (h : SqT Z.K H a xs) : SqT Z.K H' a xs := by
  rcases h with (h | ⟨o, h⟩) | h
  · exact .inl (.inl (x.tup a xs h))
  · exact .inl (.inr ⟨o, x.keep a _ h (lk a o _ h) fun _ e => nomatch e⟩)
  · exact .inr h
mutual
theorem RV.monoL (lk : ∀ a ob u, H a = some (.frz ob u) → a ∉ M) (x : Ext M H M' H') : ∀ {p : PV} {v : V}, RV Z F M H p v → RV Z F M' H' p v
  | .non, _, h => by cases h; exact .non
  | .bl _, _, h => by cases h; exact .bl _
  | .int _, _, h => by cases h; exact .int _
  | .str _, _, h => by cases h; exact .str _
  | .tup l, _, h => by
    cases h with
    | tup h1 h2 => exact .tup (x.sqTL lk h1) (RVs.monoL lk x h2)
  | .lst l, _, h => by
    cases h with
    | lst h1 h2 h3 h4 => exact .lst (x.rd h1 h3 fun _ e => nomatch e) h2 (x.rdM h1 h3) (RVs.monoL lk x h4)
  | .dct ks l, _, h => by
    cases h with
    | dct h1 h2 h3 h4 h5 => exact .dct (x.keep _ _ h1 h3 fun _ e => nomatch e) h2 (x.mem h1 h3) h4 (RVs.monoL lk x h5)
  | .ref n, _, h => by
    cases h with
    | ref h1 => exact .ref (x.at h1)
  | .err _ _ _, _, h => by cases h
theorem RVs.monoL (lk : ∀ a ob u, H a = some (.frz ob u) → a ∉ M) (x : Ext M H M' H') : ∀ {p : List PV} {v : List V}, RVs Z F M H p v → RVs Z F M' H' p v
  | [], _, h => by cases h; exact .nil
  | _ :: _, _, h => by
    cases h with
    | cons h1 h2 => exact .cons (RV.monoL lk x h1) (RVs.monoL lk x h2)
end
theorem RV.far {F' : List Addr} (r : Rel Z F M S H) (x : Ext M H M' H') (hF : ∀ a ∈ F', a ∈ F ∨ H a = none) {p : PV} {v : V} (h : RV Z F M H p v) : RV Z F' M' H' p v := RV.monoL (fun a ob u e => r.lockOut e) x (RV.toF hF h)
theorem wk_tup {l : List PV} {xs : List V} {a : Addr} (r : Rel Z F M S H) (h1 : SqT Z.K H a xs) (h2 : RVs Z F M H l xs) : Wk Z F (l, none) M H (Itt Z.K a) := by
  refine ⟨fun F' M1 S1 H1 i x r1 _ hi => ⟨xs, x.sqT r h1, by rw [← h2.len]; exact hi⟩, fun F' M1 S1 H1 i x r1 _ hi => ?_, fun F' M1 S1 H1 i p v H2 x r1 hF _ hp hy => ?_⟩
  · obtain ⟨v, e, _⟩ := h2.get (List.getElem?_eq_getElem hi)
    exact ⟨xs, v, x.sqT r h1, e⟩
  · obtain ⟨e1, e2⟩ := hy
    obtain ⟨u, e3, q⟩ := h2.get hp
    have e4 := e2 xs (x.sqT r h1)
    rw [e3] at e4
    cases e4
    rw [e1]
    exact ⟨Ext.refl _ _, r1, RV.far r x hF q⟩
theorem wk_lst {l : List PV} {xs : List V} {a : Addr} (r : Rel Z F M S H) (h1 : Rd H a (.lst xs)) (hM : a ∉ M) (h2 : RVs Z F M H l xs) : Wk Z F (l, none) M H (Itl Z.K a) := by
  refine ⟨fun F' M1 S1 H1 i x r1 _ hi => ⟨xs, x.sqL (.inl h1) hM, by rw [← h2.len]; exact hi⟩, fun F' M1 S1 H1 i x r1 _ hi => ?_, fun F' M1 S1 H1 i p v H2 x r1 hF _ hp hy => ?_⟩
  · obtain ⟨v, e, _⟩ := h2.get (List.getElem?_eq_getElem hi)
    exact ⟨xs, v, x.sqL (.inl h1) hM, e⟩
  · obtain ⟨e1, e2⟩ := hy
    obtain ⟨u, e3, q⟩ := h2.get hp
    have e4 := e2 xs (x.sqL (.inl h1) hM)
    rw [e3] at e4
    cases e4
    rw [e1]
    exact ⟨Ext.refl _ _, r1, RV.far r x hF q⟩
theorem wk_ref {l : List PV} {a : Addr} {n : Nat} (r : Rel Z F M S H) (h1 : M[n]? = some a) : Wk Z F (l, some n) M H (Itl Z.K a) := by
  have get : ∀ {F' M1 S1 H1}, Ext M H M1 H1 → Rel Z F' M1 S1 H1 → stays S1 (l, some n) = true → ∃ xs, H1 a = some (.lst xs) ∧ RVs Z F' M1 H1 l xs := fun {F' M1 S1 H1} x r1 st => by
    unfold stays at st
    simp only at st
    split at st
    · rename_i l' e
      obtain ⟨xs, q1, q2⟩ := r1.ob n a _ (x.at h1) e
      rw [bqs_eq _ _ st] at q2
      exact ⟨xs, q1, q2⟩
    · cases st
  refine ⟨fun F' M1 S1 H1 i x r1 st hi => ?_, fun F' M1 S1 H1 i x r1 st hi => ?_, fun F' M1 S1 H1 i p v H2 x r1 hF st hp hy => ?_⟩
  · obtain ⟨xs, q1, q2⟩ := get x r1 st
    exact ⟨xs, .inl (.inl q1), by rw [← q2.len]; exact hi⟩
  · obtain ⟨xs, q1, q2⟩ := get x r1 st
    obtain ⟨v, e, _⟩ := q2.get (List.getElem?_eq_getElem hi)
    exact ⟨xs, v, .inl (.inl q1), e⟩
  · obtain ⟨xs, q1, q2⟩ := get x r1 st
    obtain ⟨e1, e2⟩ := hy
    obtain ⟨u, e3, q⟩ := q2.get hp
    have e4 := e2 xs (.inl (.inl q1))
    rw [e3] at e4
    cases e4
    rw [e1]
    exact ⟨Ext.refl _ _, r1, q⟩
theorem wk_str {z : Str} : Wk Z F (z.cps.toList.map fun c => .str ⟨#[c]⟩, none) M H (Its z) := by
  refine ⟨fun F' M1 S1 H1 i x r1 _ hi => ?_, fun F' M1 S1 H1 i x r1 _ hi => ?_, fun F' M1 S1 H1 i p v H2 x r1 hF _ hp hy => ?_⟩
  · show z.cps.size ≤ i
    simpa using hi
  · show i < z.cps.size
    simpa using hi
  · obtain ⟨e1, c, e2, e3⟩ := hy
    have e4 : (z.cps.toList.map fun c => PV.str ⟨#[c]⟩)[i]? = some p := hp
    rw [List.getElem?_map, Array.getElem?_toList, e2] at e4
    cases e4
    rw [e1, e3]
    exact ⟨Ext.refl _ _, r1, .str _⟩
theorem wk_rng {lo hi : Int} : Wk Z F (rngItems lo hi, none) M H (Itr lo (hi - lo).toNat) := by
  refine ⟨fun F' M1 S1 H1 i x r1 _ h => ?_, fun F' M1 S1 H1 i x r1 _ h => ?_, fun F' M1 S1 H1 i p v H2 x r1 hF _ hp hy => ?_⟩
  · show (hi - lo).toNat ≤ i
    simpa [rngItems] using h
  · show i < (hi - lo).toNat
    simpa [rngItems] using h
  · obtain ⟨e1, e3⟩ := hy
    have e4 : (rngItems lo hi)[i]? = some p := hp
    unfold rngItems at e4
    have hlt : i < (hi - lo).toNat := by
      have := (List.getElem?_eq_some_iff.mp e4).1
      simpa using this
    rw [List.getElem?_map, List.getElem?_range hlt] at e4
    cases e4
    rw [e1, e3]
    exact ⟨Ext.refl _ _, r1, .int _⟩
end
/-- for over a value -/
def iAny (K : PySem.W.Frag) (tl : TE) : TI := fun σ H R => tl σ H fun x H1 => (∃ a, x = .ref a ∧ (∃ xs, SqL K H1 a xs) ∧ R (Itl K a) H1) ∨ (∃ a, x = .ref a ∧ (∃ xs, SqT K H1 a xs) ∧ R (Itt K a) H1) ∨ ∃ z, x = .str z ∧ R (Its z) H1
theorem pi_any {X : Cx} {tg l : Expr} {tl : TE} (hl : PE X l tl) : PI X tg l (iAny X.K tl) := by
  refine ⟨fun pins s σ H R I h => ?_⟩
  refine thn (hl.run pins s σ H _ I h) fun v s1 ⟨x, H1, I1, r1, q1⟩ => ?_
  rcases q1 with ⟨a, e, ⟨xs, hq⟩, q⟩ | ⟨a, e, ⟨xs, hq⟩, q⟩ | ⟨z, ex, q⟩
  · subst e
    cases r1
    obtain ⟨its, rv, p, hz⟩ := I1.list hq
    refine wpAny_pyIter_list p.isList ?_
    exact pi_one (tk := s1.toks) I1 _ (turn_list a _) ⟨_, Heap.get?_push_size _ rfl, rfl, rfl⟩ q
  · subst e
    cases r1
    obtain ⟨its, rv, p, hz⟩ := I1.tuple hq
    refine wpAny_pyIter_tuple (show s1.heap.IsTuple a its.toArray from p) ?_
    exact pi_one (tk := s1.toks) I1 _ (turn_tuple a _) ⟨_, Heap.get?_push_size _ rfl, rfl, rfl⟩ q
  · subst ex
    obtain ⟨t, rfl⟩ := r1
    cases ha : z.cps.all (· < 128)
    · exact wpAny_pyIter_wide ha (pi_one (tk := s1.toks) I1 _ (turn_str _ z t "str_iterator" (.inr rfl)) ⟨_, Heap.get?_push_size _ rfl, rfl, rfl⟩ q)
    · exact wpAny_pyIter_ascii ha (pi_one (tk := s1.toks) I1 _ (turn_str _ z t "str_ascii_iterator" (.inl rfl)) ⟨_, Heap.get?_push_size _ rfl, rfl, rfl⟩ q)
end Ev

set_option Elab.async false
set_option linter.all false
set_option maxRecDepth 100000
/-! the turns of comprehensions and loops beside the evaluator's -/
namespace Ev
open PySem PySem.Spec PyProof.Rows L2
/-- how a block ends, on the heap's side -/
inductive Fl where
  | nx (σ : L2.St) | rt (v : V) | ct (σ : L2.St)
def RO (Z : Fx) (F : List Addr) : List Addr → Hp → Out → Fl → Prop := fun M H o f => match o, f with
  | .nx σp, .nx σ => SlR Z F M H σp σ
  | .rt p, .rt v => RV Z F M H p v
  | .ct σp, .ct σ => SlR Z F M H σp σ
  | _, _ => False
def dE (D : Ends) : Fl → Hp → Prop
  | .nx σ, H => D.nx σ H
  | .rt v, H => D.rt v H
  | .ct σ, H => D.ct σ H
section
variable {Z : Fx} {E : Ex} {F M1 : List Addr} {S1 : Sto} {H1 : Hp} {W : XK}
theorem drop_cons {α : Type} {l : List α} {i : Nat} (h : i < l.length) : l.drop i = l[i] :: l.drop (i + 1) := List.drop_eq_getElem_cons h
theorem lc_ok {w : Walk} {J : It} {m : Bool} {tg : Tg} {own : List Nat} {elt : Sl → Sto → Rs PV} {test : Sl → Sto → Rs Bool} {σp : Sl} {σ : L2.St} {Q : VK} (r : Rel Z F M1 S1 H1) (sl : SlR Z F M1 H1 σp σ) (wk : Wk Z F w M1 H1 J) (hi : ∀ i ∈ tgIs tg, i ∈ own) {tt : TT} {te : TE}
    (htt : ∀ F M S H σp σ b S' Q, Rel Z F M S H → SlR Z F M H σp σ → test σp S = .ok b S' → (∀ M' H', Ext M H M' H' → Rel Z F M' S' H' → Q b H') → tt σ H Q)
    (hte : ∀ F M S H σp σ p S' Q, Rel Z F M S H → SlR Z F M H σp σ → elt σp S = .ok p S' → (∀ M' H' u, Ext M H M' H' → Rel Z F M' S' H' → RV Z F M' H' p u → Q u H') → te σ H Q)
    (p : Post Z E F (R1 Z F) M1 H1 ((lcGo (fun S' => stays S' w) elt test tg (wipeP σp own) w.1 S1 []).bind fun vs S2 => newL m vs S2) Q W) :
    ∀ D, H1 D = none → ∃ Wi : Nat → Nat → Hp → Prop, (∃ m, Wi 0 m (upd H1 D (.lst []))) ∧ ∀ i m H, Wi i m H →
      (J.stop i H ∧ Q (.ref D) H) ∨ (J.go i H ∧ ∃ Nx : Hp → Prop, (∀ H', Nx H' → ∃ m', m' < m ∧ Wi (i + 1) m' H') ∧ ∀ x H', J.yld i H x H' → gT Z.K tg x (wipe σ own) H' fun σ2 H2 => wipe σ2 own = wipe σ own ∧ tt σ2 H2 fun b H3 =>
        if b = true then te σ2 H3 fun y H4 => ∃ acc, H4 D = some (.lst acc) ∧ acc.length < sizeLine ∧ Nx (upd H4 D (.lst (acc ++ [y]))) else Nx H3) := by
  intro D hD
  obtain ⟨nF, nM⟩ := notIn_fresh r hD
  have hF : ∀ a ∈ D :: F, a ∈ F ∨ H1 a = none := fun a ha => by
    rcases List.mem_cons.mp ha with e | ha
    · rw [e]; exact .inr hD
    · exact .inl ha
  refine ⟨fun i n H => i ≤ w.1.length ∧ n = w.1.length - i ∧ ∃ M S accP accV, Ext M1 H1 M H ∧ Rel Z (D :: F) M S H ∧ SlR Z (D :: F) M H (wipeP σp own) (wipe σ own) ∧ H D = some (.lst accV) ∧ RVs Z (D :: F) M H accP.reverse accV ∧
    Post Z E F (R1 Z F) M1 H1 ((lcGo (fun S' => stays S' w) elt test tg (wipeP σp own) (w.1.drop i) S accP).bind fun vs S2 => newL m vs S2) Q W, ?_, ?_⟩
  · exact ⟨_, Nat.zero_le _, rfl, M1, S1, [], [], (Ext.refl M1 H1).past hD, r.addF hD, (sl.wipe own).addF hD, upd_same, .nil, by simpa using p⟩
  · rintro i n H ⟨hil, hn, M, S, accP, accV, x, r2, sl2, hDD, racc, p2⟩
    have nM2 : D ∉ M := r2.dis D (List.mem_cons_self ..)
    by_cases hlt : i < w.1.length
    · right
      rw [drop_cons hlt] at p2
      unfold lcGo at p2
      cases hok : stays S w with
      | false => rw [hok] at p2; exact p2.elim
      | true =>
        rw [hok] at p2
        simp only [Bool.not_true, Bool.false_eq_true, if_false] at p2
        cases hs : setTg tg w.1[i] (wipeP σp own) with
        | none => rw [hs] at p2; exact p2.elim
        | some σ' =>
          rw [hs] at p2
          simp only at p2
          cases ht : test σ' S with
          | bad => rw [ht] at p2; exact p2.elim
          | ex c fs S' => rw [ht] at p2; exact p2.elim
          | ok b Sb =>
            rw [ht] at p2
            simp only at p2
            refine ⟨wk.go _ M S H i x r2 hok hlt, fun H' => i + 1 ≤ w.1.length ∧ w.1.length - (i + 1) = w.1.length - (i + 1) ∧ ∃ M S accP accV, Ext M1 H1 M H' ∧ Rel Z (D :: F) M S H' ∧ SlR Z (D :: F) M H' (wipeP σp own) (wipe σ own) ∧ H' D = some (.lst accV) ∧ RVs Z (D :: F) M H' accP.reverse accV ∧
              Post Z E F (R1 Z F) M1 H1 ((lcGo (fun S' => stays S' w) elt test tg (wipeP σp own) (w.1.drop (i + 1)) S accP).bind fun vs S2 => newL m vs S2) Q W, fun H' q => ⟨_, by omega, q⟩, fun v H2 hy => ?_⟩
            obtain ⟨x3, r3, rv3⟩ := wk.yld _ M S H i _ v H2 x r2 hF hok (List.getElem?_eq_getElem hlt) hy
            have sl3 := sl2.mono r2 x3
            refine tg_ok sl3 rv3 hs fun vs sl4 => ⟨?_, ?_⟩
            · refine (wipe_out (by rw [setV_len]) fun j hj => ?_).trans (wipe_out (σ := wipe σ own) (by rw [wipe_length]) fun j hj => ?_)
              · exact setV_out fun z => hj (hi j z)
              · exact wipe_in σ own j hj
            · refine htt (D :: F) M S H2 σ' _ b Sb _ r3 sl4 ht fun M4 H4 x4 r4 => ?_
              have sl5 : SlR Z (D :: F) M4 H4 (wipeP σp own) (wipe σ own) := sl3.mono r3 x4
              have sl6 := sl4.mono r3 x4
              have d4 : H4 D = some (.lst accV) := x4.keep D _ (x3.keep D _ hDD nM2 fun _ z => nomatch z) nM2 fun _ z => nomatch z
              have a4 := RVs.mono r3 x4 (RVs.mono r2 x3 racc)
              cases b with
              | false =>
                rw [if_neg Bool.false_ne_true]
                simp only [Bool.false_eq_true, if_false] at p2
                exact ⟨hlt, rfl, M4, Sb, accP, accV, x.trans (x3.trans x4), r4, sl5, d4, a4, p2⟩
              | true =>
                rw [if_pos rfl]
                simp only [if_true] at p2
                cases he : elt σ' Sb with
                | bad => rw [he] at p2; exact p2.elim
                | ex c fs S' => rw [he] at p2; exact p2.elim
                | ok y Sy =>
                  rw [he] at p2
                  simp only at p2
                  split at p2
                  · rename_i hc
                    refine hte (D :: F) M4 Sb H4 σ' _ y Sy _ r4 sl6 he fun M5 H5 u x5 r5 rv5 => ?_
                    have nM4 : D ∉ M4 := r4.dis D (List.mem_cons_self ..)
                    have d5 : H5 D = some (.lst accV) := x5.keep D _ d4 nM4 fun _ z => nomatch z
                    have a5 := RVs.mono r4 x5 a4
                    refine ⟨accV, d5, ?_, hlt, rfl, M5, Sy, y :: accP, accV ++ [u], (x.trans (x3.trans (x4.trans x5))).past hD, r5.over d5, (sl5.mono r4 x5).over d5, upd_same, ?_, p2⟩
                    · rw [← a4.len, List.length_reverse]
                      exact Nat.lt_of_lt_of_le hc (by decide)
                    · rw [List.reverse_cons]
                      exact RVs.over d5 (a5.app (.one rv5))
                  · exact p2.elim
    · left
      have hie : i = w.1.length := by omega
      rw [List.drop_eq_nil_of_le (by omega)] at p2
      unfold lcGo at p2
      cases hok : stays S w with
      | false => simp only [hok] at p2; exact p2.elim
      | true =>
        simp only [hok, if_true] at p2
        refine ⟨wk.stop _ M S H i x r2 hok (by omega), ?_⟩
        have p3 : Post Z E F (R1 Z F) M1 H1 (newL m accP.reverse S) Q W := p2
        cases m with
        | false => exact p3 M H (.ref D) x r2.subF (.lst (.inl hDD) nF nM2 (RVs.subF racc))
        | true =>
          refine p3 (M ++ [D]) H (.ref D) (x.adopt hD) (r2.adopt nF hDD racc) (.ref ?_)
          rw [← r2.len]
          simp

/-! ### for, while -/
theorem for_ok {w : Walk} {J : It} {tg : Tg} {body : Sl → Sto → Rs Out} {σp : Sl} {σ : L2.St} {Dn : Ends} {tb : TS} (r : Rel Z F M1 S1 H1) (sl : SlR Z F M1 H1 σp σ) (wk : Wk Z F w M1 H1 J)
    (htb : ∀ M S H σp σ D, Rel Z F M S H → SlR Z F M H σp σ → Post Z E F (RO Z F) M H (body σp S) (dE D) W → tb D σ H)
    (p : Post Z E F (RO Z F) M1 H1 (forGo (fun S' => stays S' w) body tg w.1 σp S1) (dE Dn) W) :
    ∃ Wi : Nat → Nat → L2.St → Hp → Prop, (∃ m, Wi 0 m σ H1) ∧ ∀ i m σ H, Wi i m σ H →
      (J.stop i H ∧ Dn.nx σ H) ∨ (J.go i H ∧ ∃ N : L2.St → Hp → Prop, (∀ σ' H', N σ' H' → ∃ m', m' < m ∧ Wi (i + 1) m' σ' H') ∧ ∀ x H', J.yld i H x H' → gT Z.K tg x σ H' fun σ2 H2 => tb { Dn with nx := N, ct := N, bk := Dn.nx } σ2 H2) := by
  refine ⟨fun i n σ H => i ≤ w.1.length ∧ n = w.1.length - i ∧ ∃ M S σp, Ext M1 H1 M H ∧ Rel Z F M S H ∧ SlR Z F M H σp σ ∧ Post Z E F (RO Z F) M H (forGo (fun S' => stays S' w) body tg (w.1.drop i) σp S) (dE Dn) W, ?_, ?_⟩
  · exact ⟨_, Nat.zero_le _, rfl, M1, S1, σp, Ext.refl _ _, r, sl, by simpa using p⟩
  · rintro i n σ H ⟨hil, hn, M, S, σp, x, r2, sl2, p2⟩
    by_cases hlt : i < w.1.length
    · right
      rw [drop_cons hlt] at p2
      unfold forGo at p2
      cases hok : stays S w with
      | false => rw [hok] at p2; exact p2.elim
      | true =>
        rw [hok] at p2
        simp only [Bool.not_true, Bool.false_eq_true, if_false] at p2
        cases hs : setTg tg w.1[i] σp with
        | none => rw [hs] at p2; exact p2.elim
        | some σ' =>
          rw [hs] at p2
          simp only at p2
          refine ⟨wk.go _ M S H i x r2 hok hlt, fun σ H => i + 1 ≤ w.1.length ∧ w.1.length - (i + 1) = w.1.length - (i + 1) ∧ ∃ M S σp, Ext M1 H1 M H ∧ Rel Z F M S H ∧ SlR Z F M H σp σ ∧ Post Z E F (RO Z F) M H (forGo (fun S' => stays S' w) body tg (w.1.drop (i + 1)) σp S) (dE Dn) W,
            fun σ' H' q => ⟨_, by omega, q⟩, fun v H2 hy => ?_⟩
          obtain ⟨x3, r3, rv3⟩ := wk.yld _ M S H i _ v H2 x r2 (fun a ha => .inl ha) hok (List.getElem?_eq_getElem hlt) hy
          refine tg_ok (sl2.mono r2 x3) rv3 hs fun vs sl4 => htb M S H2 σ' _ _ r3 sl4 ?_
          have p3 := p2.ext x3
          cases hb : body σ' S with
          | bad => rw [hb] at p3; exact p3
          | ex c fs S' => rw [hb] at p3; exact p3
          | ok o S' =>
            rw [hb] at p3
            intro M4 H4 u x4 r4 ro
            cases o with
            | nx σ2 =>
              cases u with
              | nx σ3 => exact ⟨hlt, rfl, M4, S', σ2, x.trans (x3.trans x4), r4, ro, p3.ext x4⟩
              | rt v => exact ro.elim
              | ct σ3 => exact ro.elim
            | ct σ2 =>
              cases u with
              | ct σ3 => exact ⟨hlt, rfl, M4, S', σ2, x.trans (x3.trans x4), r4, ro, p3.ext x4⟩
              | rt v => exact ro.elim
              | nx σ3 => exact ro.elim
            | rt v =>
              cases u with
              | rt v2 => exact p3 M4 H4 (.rt v2) x4 r4 ro
              | ct σ3 => exact ro.elim
              | nx σ3 => exact ro.elim
    · left
      rw [List.drop_eq_nil_of_le (by omega)] at p2
      unfold forGo at p2
      cases hok : stays S w with
      | false => simp only [hok] at p2; exact p2.elim
      | true =>
        simp only [hok, if_true] at p2
        exact ⟨wk.stop _ M S H i x r2 hok (by omega), p2 M H (.nx σ) (Ext.refl _ _) r2 sl2⟩
theorem while_ok {test : Sl → Sto → Rs Bool} {body : Sl → Sto → Rs Out} {σp : Sl} {σ : L2.St} {n : Nat} {Dn : Ends} {tc : TT} {tb : TS} (r : Rel Z F M1 S1 H1) (sl : SlR Z F M1 H1 σp σ)
    (htc : ∀ M S H σp σ Q, Rel Z F M S H → SlR Z F M H σp σ → Post Z E F Rb M H (test σp S) Q W → tc σ H Q)
    (htb : ∀ M S H σp σ D, Rel Z F M S H → SlR Z F M H σp σ → Post Z E F (RO Z F) M H (body σp S) (dE D) W → tb D σ H)
    (p : Post Z E F (RO Z F) M1 H1 (whlGo test body n σp S1) (dE Dn) W) : tWhile tc tb Dn σ H1 := by
  refine ⟨fun n σ H => ∃ M S σp, Rel Z F M S H ∧ SlR Z F M H σp σ ∧ Post Z E F (RO Z F) M H (whlGo test body n σp S) (dE Dn) W, ⟨n, M1, S1, σp, r, sl, p⟩, ?_⟩
  rintro n σ H ⟨M, S, σp, r2, sl2, p2⟩
  cases n with
  | zero => exact p2.elim
  | succ n =>
    unfold whlGo at p2
    refine htc M S H σp σ _ r2 sl2 (p2.bind.imp fun b H3 ⟨v, M3, S3, x3, r3, e3, p3⟩ => ?_)
    have e4 : v = b := e3
    subst e4
    cases v with
    | false =>
      rw [if_neg Bool.false_ne_true]
      simp only [Bool.false_eq_true, if_false] at p3
      exact p3 M3 H3 (.nx σ) (Ext.refl _ _) r3 (sl2.mono r2 x3)
    | true =>
      rw [if_pos rfl]
      simp only [if_true] at p3
      refine ⟨fun σ H => ∃ M S σp, Rel Z F M S H ∧ SlR Z F M H σp σ ∧ Post Z E F (RO Z F) M H (whlGo test body n σp S) (dE Dn) W, fun σ' H' q => ⟨n, Nat.lt_succ_self n, q⟩, htb M3 S3 H3 σp σ _ r3 (sl2.mono r2 x3) ?_⟩
      cases hb : body σp S3 with
      | bad => rw [hb] at p3; exact p3
      | ex c fs S' => rw [hb] at p3; exact p3
      | ok o S' =>
        rw [hb] at p3
        intro M4 H4 u x4 r4 ro
        cases o with
        | nx σ2 =>
          cases u with
          | nx σ3 => exact ⟨M4, S', σ2, r4, ro, p3.ext x4⟩
          | rt v => exact ro.elim
          | ct σ3 => exact ro.elim
        | ct σ2 =>
          cases u with
          | ct σ3 => exact ⟨M4, S', σ2, r4, ro, p3.ext x4⟩
          | rt v => exact ro.elim
          | nx σ3 => exact ro.elim
        | rt v =>
          cases u with
          | rt v2 => exact p3 M4 H4 (.rt v2) x4 r4 ro
          | ct σ3 => exact ro.elim
          | nx σ3 => exact ro.elim
end
end Ev

set_option Elab.async false
set_option linter.all false
set_option maxRecDepth 100000
/-! one node of an expression each, beside the evaluator's -/
namespace Ev
open PySem PySem.Spec PyProof.Rows L2
/-- a state beside the evaluator's -/
structure At (Z : Fx) (X : Cx) (F M : List Addr) (S : Sto) (σp : Sl) (W : XK) (σ : L2.St) (H : Hp) : Prop where
  tk : L2.Takes X (fun c d _ H => W c d H)
  r : Rel Z F M S H
  sl : SlR Z F M H σp σ
theorem At.ext {Z : Fx} {X : Cx} {F M M' : List Addr} {S S' : Sto} {σp : Sl} {W : XK} {σ : L2.St} {H H' : Hp} (a : At Z X F M S σp W σ H) (x : Ext M H M' H') (r : Rel Z F M' S' H') : At Z X F M' S' σp W σ H' := ⟨a.tk, r, a.sl.mono a.r x⟩
def tG {α β : Type} (Z : Fx) (E : Ex) (X : Cx) (R : List Addr → List Addr → Hp → α → β → Prop) (f : Sl → Sto → Rs α) : L2.St → Hp → (β → Hp → Prop) → Prop := fun σ H Q =>
  ∃ F M S σp W, At Z X F M S σp W σ H ∧ Post Z E F (R F) M H (f σp S) Q W
abbrev tE (Z : Fx) (E : Ex) (X : Cx) (f : Sl → Sto → Rs PV) : TE := tG Z E X (R1 Z) f
abbrev tT (Z : Fx) (E : Ex) (X : Cx) (f : Sl → Sto → Rs Bool) : TT := tG Z E X (fun _ => Rb) f
abbrev tA (Z : Fx) (E : Ex) (X : Cx) (f : Sl → Sto → Rs (List PV)) : TA := tG Z E X (Rn Z) f
section
variable {Z : Fx} {E : Ex} {X : Cx} {F M : List Addr} {S : Sto} {H : Hp} {W : XK} {σp : Sl} {σ : L2.St}
theorem tG.imp {α β : Type} {R : List Addr → List Addr → Hp → α → β → Prop} {f : Sl → Sto → Rs α} {Q Q' : β → Hp → Prop} (h : tG Z E X R f σ H Q) (k : ∀ u H, Q u H → Q' u H) : tG Z E X R f σ H Q' :=
  let ⟨F, M, S, σp, W, a, p⟩ := h
  ⟨F, M, S, σp, W, a, p.imp k⟩
theorem At.seq {α β γ δ : Type} {R : List Addr → List Addr → Hp → α → β → Prop} {R' : List Addr → Hp → γ → δ → Prop} {f : Sl → Sto → Rs α} {g : α → Sto → Rs γ} {Q : δ → Hp → Prop} (a : At Z X F M S σp W σ H) (p : Post Z E F R' M H ((f σp S).bind g) Q W) :
    tG Z E X R f σ H (fun u H1 => ∃ v M1 S1, Ext M H M1 H1 ∧ At Z X F M1 S1 σp W σ H1 ∧ R F M1 H1 v u ∧ Post Z E F R' M1 H1 (g v S1) Q W) :=
  ⟨F, M, S, σp, W, a, p.bind.imp fun u H1 ⟨v, M1, S1, x, r1, rv, p1⟩ => ⟨v, M1, S1, x, a.ext x r1, rv, p1⟩⟩
theorem peI {e : Expr} {t t' : TE} (h : PE X e t) (k : ∀ σ H Q, t' σ H Q → t σ H Q) : PE X e t' := ⟨fun pins s σ H Q I q => h.run pins s σ H Q I (k σ H Q q)⟩
theorem ptI {e : Expr} {t t' : TT} (h : PT X e t) (k : ∀ σ H Q, t' σ H Q → t σ H Q) : PT X e t' := ⟨fun pins s σ H Q I q => h.run pins s σ H Q I (k σ H Q q)⟩
theorem paI {e : List Expr} {t t' : TA} (h : PA X e t) (k : ∀ σ H Q, t' σ H Q → t σ H Q) : PA X e t' := ⟨fun pos pins s σ H Q I q => h.run pos pins s σ H Q I (k σ H Q q)⟩
theorem asB_bl {r : Rs PV} {F : List Addr} {Q : Bool → Hp → Prop} (p : Post Z E F Rb M H (asB r) Q W) : Post Z E F (R1 Z F) M H r (fun x H1 => ∃ c, x = .bl c ∧ Q c H1) W := by
  cases r with
  | bad => exact p
  | ex c fs S' => exact p
  | ok v S' =>
    intro M' H' u x r rv
    cases v with
    | bl b =>
      cases rv
      exact ⟨b, rfl, p M' H' b x r rfl⟩
    | _ => exact p.elim
theorem tT_tB {f : Sl → Sto → Rs PV} {Q : Bool → Hp → Prop} (h : tT Z E X (fun σ S => asB (f σ S)) σ H Q) : tB (tE Z E X f) σ H Q :=
  let ⟨F, M, S, σp, W, a, p⟩ := h
  ⟨F, M, S, σp, W, a, asB_bl p⟩
/-- a test that is its value's truth -/
theorem pt_of {e : Expr} {f : Sl → Sto → Rs PV} (h : PE X e (tE Z E X f)) (he : ∀ whole, isTrue e X.env whole = (do let v ← whole; standAt e.pos; holding [v] (truthy v))) : PT X e (tT Z E X fun σ S => asB (f σ S)) := ptI (pt_val h he) fun _ _ _ h => tT_tB h
/-- an evaluated bool at once goes on -/
theorem Post.boolStep {γ δ : Type} {R' : List Addr → Hp → γ → δ → Prop} {r : Rs PV} {g : Bool → Sto → Rs γ} {F : List Addr} {Q : δ → Hp → Prop} (p : Post Z E F R' M H ((asB r).bind g) Q W) :
    Post Z E F (R1 Z F) M H r (fun x H1 => ∃ c M1 S1, x = .bl c ∧ Ext M H M1 H1 ∧ Rel Z F M1 S1 H1 ∧ Post Z E F R' M1 H1 (g c S1) Q W) W := by
  cases r with
  | bad => exact p
  | ex c fs S' => exact p
  | ok v S' =>
    intro M' H' u x r rv
    cases v with
    | bl b =>
      cases rv
      exact ⟨b, M', S', rfl, x, r, Post.ext (show Post Z E F R' M H (g b S') Q W from p) x⟩
    | _ => exact p.elim
theorem At.bstep {γ δ : Type} {R' : List Addr → Hp → γ → δ → Prop} {f : Sl → Sto → Rs PV} {g : Bool → Sto → Rs γ} {Q : δ → Hp → Prop} (a : At Z X F M S σp W σ H) (p : Post Z E F R' M H ((asB (f σp S)).bind g) Q W) :
    tE Z E X f σ H (fun x H1 => ∃ c M1 S1, x = .bl c ∧ At Z X F M1 S1 σp W σ H1 ∧ Post Z E F R' M1 H1 (g c S1) Q W) :=
  ⟨F, M, S, σp, W, a, p.boolStep.imp fun u H1 ⟨c, M1, S1, e, x, r1, p1⟩ => ⟨c, M1, S1, e, a.ext x r1, p1⟩⟩
theorem At.tstep {γ δ : Type} {R' : List Addr → Hp → γ → δ → Prop} {f : Sl → Sto → Rs Bool} {g : Bool → Sto → Rs γ} {Q : δ → Hp → Prop} (a : At Z X F M S σp W σ H) (p : Post Z E F R' M H ((f σp S).bind g) Q W) :
    tT Z E X f σ H (fun c H1 => ∃ M1 S1, At Z X F M1 S1 σp W σ H1 ∧ Post Z E F R' M1 H1 (g c S1) Q W) :=
  ⟨F, M, S, σp, W, a, p.bind.imp fun u H1 ⟨v, M1, S1, x, r1, rv, p1⟩ => by
    have e : v = u := rv
    subst e
    exact ⟨M1, S1, a.ext x r1, p1⟩⟩
theorem asB_bind {α : Type} {r : Rs α} {f : α → Sto → Rs PV} : asB (r.bind f) = r.bind fun v S => asB (f v S) := by
  cases r <;> rfl
theorem asB_ok {b : Bool} {S : Sto} : asB (.ok (.bl b) S) = .ok b S := rfl
theorem bind_ok {α : Type} (r : Rs α) : (r.bind fun v S => Rs.ok v S) = r := by cases r <;> rfl

/-! ### names, constants -/
theorem n_var {i : Nat} {x : Str} {pos : Pos} (hN : X.N[i]? = some x) (hv : Vis X.env.scope x) (hd : (x == ("__debug__" : Str)) = false) (hcd : (x == ("__classdict__" : Str)) = false) :
    PE X (.Name x pos) (tE Z E X fun σ S => match σ[i]? with
      | some (some v) => .ok v S
      | _ => .bad) := by
  refine peI (pe_var hN hv hd hcd) fun σ H Q ⟨F, M, S, σp, W, a, p⟩ => ?_
  dsimp only at p
  cases h : σp[i]? with
  | none => rw [h] at p; exact p.elim
  | some o =>
    cases o with
    | none => rw [h] at p; exact p.elim
    | some v =>
      rw [h] at p
      obtain ⟨u, e, q⟩ := a.sl.at_ i v h
      exact ⟨u, e, Post.val p a.r q⟩
theorem n_cst {e : Expr} {v : V} {p : PV} (h : PE X e (tC v)) (hr : ∀ F M H, RV Z F M H p v) : PE X e (tE Z E X fun _ S => .ok p S) :=
  peI h fun _ _ _ ⟨_, _, _, _, _, a, q⟩ => Post.val q a.r (hr _ _ _)

/-! ### argument lists -/
theorem Rn_nil {F M : List Addr} {H : Hp} : Rn Z F M H [] [] := RVs.nil
theorem n_nil : PA X [] (tA Z E X fun _ S => .ok [] S) := paI pa_nil fun _ _ _ ⟨_, _, _, _, _, a, q⟩ => Post.val q a.r Rn_nil
theorem n_cons {e : Expr} {es : List Expr} {f : Sl → Sto → Rs PV} {g : Sl → Sto → Rs (List PV)} (h : PE X e (tE Z E X f)) (hr : PA X es (tA Z E X g)) (hs : starEach (e :: es) X.env = (false, eval e X.env) :: starEach es X.env) :
    PA X (e :: es) (tA Z E X fun σ S => (f σ S).bind fun v S1 => (g σ S1).bind fun vs S2 => .ok (v :: vs) S2) := by
  refine paI (pa_cons h hr hs) fun σ H Q ⟨F, M, S, σp, W, a, p⟩ => ?_
  refine (a.seq p).imp fun x H1 ⟨v, M1, S1, x1, a1, r1, p1⟩ => (a1.seq p1).imp fun xs H2 ⟨vs, M2, S2, x2, a2, r2, p2⟩ => ?_
  exact Post.val (R := Rn Z F) p2 a2.r (RVs.cons (RV.mono a1.r x2 r1) r2)
theorem n_tup {es : List Expr} {g : Sl → Sto → Rs (List PV)} {k : Nat} {pos : Pos} (h : PA X es (tA Z E X g)) (hl : es.length ≤ 1000000) (gl : ∀ σ S vs S', g σ S = .ok vs S' → vs.length = es.length) :
    PE X (.Tuple es k pos) (tE Z E X fun σ S => (g σ S).bind fun vs S1 => .ok (.tup vs) S1) := by
  refine peI (pe_tup h) fun σ H Q ⟨F, M, S, σp, W, a, p⟩ => ⟨F, M, S, σp, W, a, ?_⟩
  dsimp only at p
  cases hg : g σp S with
  | bad => rw [hg] at p; exact p
  | ex c fs S' => rw [hg] at p; exact p
  | ok vs S' =>
    rw [hg] at p
    intro M1 H1 xs x r rv
    have rv : RVs Z F M1 H1 vs xs := rv
    refine ⟨?_, fun q hq => Post.newT (Post.ext (show Post Z E F (R1 Z F) M H (.ok (.tup vs) S') Q W from p) x) r rv hq⟩
    rw [← rv.len, gl _ _ _ _ hg]
    exact Nat.le_trans hl (by decide)
theorem n_lst {es : List Expr} {g : Sl → Sto → Rs (List PV)} {m : Bool} {pos : Pos} (h : PA X es (tA Z E X g)) (hl : es.length ≤ 1000000) (gl : ∀ σ S vs S', g σ S = .ok vs S' → vs.length = es.length) :
    PE X (.List es pos) (tE Z E X fun σ S => (g σ S).bind fun vs S1 => newL m vs S1) := by
  refine peI (pe_lst h) fun σ H Q ⟨F, M, S, σp, W, a, p⟩ => ⟨F, M, S, σp, W, a, ?_⟩
  dsimp only at p
  cases hg : g σp S with
  | bad => rw [hg] at p; exact p
  | ex c fs S' => rw [hg] at p; exact p
  | ok vs S' =>
    rw [hg] at p
    intro M1 H1 xs x r rv
    have rv : RVs Z F M1 H1 vs xs := rv
    refine ⟨?_, fun q hq => Post.newL (Post.ext (show Post Z E F (R1 Z F) M H (newL m vs S') Q W from p) x) r rv hq⟩
    rw [← rv.len, gl _ _ _ _ hg]
    exact Nat.le_trans hl (by decide)

/-! ### operators -/
variable {a b c : Expr} {fa fb fc : Sl → Sto → Rs PV} {pos : Pos}
theorem n_bin {op : BOp} (hK : X.K = Z.K) (ha : PE X a (tE Z E X fa)) (hb : PE X b (tE Z E X fb)) : PE X (.BinOp a (opOf op) b pos) (tE Z E X fun σ S => (fa σ S).bind fun x S1 => (fb σ S1).bind fun y S2 => ofO (binV op x y) S2) := by
  refine peI (pe_op (op_bin op) ha hb) fun σ H Q ⟨F, M, S, σp, W, at_, p⟩ => ?_
  refine (at_.seq p).imp fun x H1 ⟨v, M1, S1, x1, a1, r1, p1⟩ => (a1.seq p1).imp fun y H2 ⟨w, M2, S2, x2, a2, r2, p2⟩ => ?_
  obtain ⟨z, e, p3⟩ := p2.ofO
  rw [hK]
  exact bin_ok a2.r e (RV.mono a1.r x2 r1) r2 p3
theorem ofO_map {α β : Type} {R : List Addr → Hp → β → V → Prop} {o : Option α} {g : α → β} {F : List Addr} {Q : VK} (p : Post Z E F R M H (ofO (o.map g) S) Q W) : ∃ z, o = some z ∧ Post Z E F R M H (.ok (g z) S) Q W := by
  cases o with
  | none => exact p.elim
  | some z => exact ⟨z, rfl, p⟩
theorem n_cmp {op : COp} (hK : X.K = Z.K) (hu : X.A.units + 200 < cLine) (ha : PE X a (tE Z E X fa)) (hb : PE X b (tE Z E X fb)) (hm : behindInMarks (cOf op) b = false) :
    PE X (.Compare a [cOf op] [b] pos) (tE Z E X fun σ S => (fa σ S).bind fun x S1 => (fb σ S1).bind fun y S2 => ofO ((cmpV S2 op x y).map .bl) S2) := by
  refine peI (pe_cmpR (op_cmp hu op) ha hb hm) fun σ H Q ⟨F, M, S, σp, W, at_, p⟩ => ?_
  refine (at_.seq p).imp fun x H1 ⟨v, M1, S1, x1, a1, r1, p1⟩ => (a1.seq p1).imp fun y H2 ⟨w, M2, S2, x2, a2, r2, p2⟩ => ?_
  obtain ⟨z, e, p3⟩ := ofO_map p2
  rw [hK]
  exact cmp_ok a2.r e (RV.mono a1.r x2 r1) r2 (Post.val p3 a2.r (.bl _))
theorem n_cmpT {op : COp} (hK : X.K = Z.K) (hu : X.A.units + 200 < cLine) (ha : PE X a (tE Z E X fa)) (hb : PE X b (tE Z E X fb)) (hm : behindInMarks (cOf op) b = false) :
    PT X (.Compare a [cOf op] [b] pos) (tT Z E X fun σ S => asB ((fa σ S).bind fun x S1 => (fb σ S1).bind fun y S2 => ofO ((cmpV S2 op x y).map .bl) S2)) := by
  refine ptI (pt_cmpR (op_cmp hu op) ha hb hm) fun σ H Q ⟨F, M, S, σp, W, at_, p⟩ => ?_
  have p0 := asB_bl p
  refine (at_.seq p0).imp fun x H1 ⟨v, M1, S1, x1, a1, r1, p1⟩ => (a1.seq p1).imp fun y H2 ⟨w, M2, S2, x2, a2, r2, p2⟩ => ?_
  obtain ⟨z, e, p3⟩ := ofO_map p2
  rw [hK]
  exact cmp_ok a2.r e (RV.mono a1.r x2 r1) r2 (Post.val p3 a2.r (.bl _))
theorem n_chainG {o1 o2 : COp} {Q : VK} (hK : X.K = Z.K) (at_ : At Z X F M S σp W σ H)
    (p : Post Z E F (R1 Z F) M H ((fa σp S).bind fun x S1 => (fb σp S1).bind fun y S2 => match cmpV S2 o1 x y with
      | none => .bad
      | some false => .ok (.bl false) S2
      | some true => (fc σp S2).bind fun z S3 => ofO ((cmpV S3 o2 y z).map .bl) S3) Q W) : tChain (rCmp X.K o1) (rCmp X.K o2) (tE Z E X fa) (tE Z E X fb) (tE Z E X fc) σ H Q := by
  refine (at_.seq p).imp fun x H1 ⟨v, M1, S1, x1, a1, r1, p1⟩ => (a1.seq p1).imp fun y H2 ⟨w, M2, S2, x2, a2, r2, p2⟩ => ?_
  rw [hK]
  cases e : cmpV S2 o1 v w with
  | none => simp only [e] at p2; exact p2.elim
  | some k =>
    simp only [e] at p2
    refine cmp_ok a2.r e (RV.mono a1.r x2 r1) r2 ⟨k, rfl, ?_⟩
    cases k with
    | false =>
      rw [if_neg Bool.false_ne_true]
      exact Post.val (show Post Z E F (R1 Z F) M2 H2 (.ok (.bl false) S2) Q W from p2) a2.r (.bl _)
    | true =>
      rw [if_pos rfl]
      refine (a2.seq p2).imp fun z H3 ⟨t, M3, S3, x3, a3, r3, p3⟩ => ?_
      obtain ⟨k2, e2, p4⟩ := ofO_map p3
      exact cmp_ok a3.r e2 (RV.mono a2.r x3 r2) r3 (Post.val p4 a3.r (.bl _))
theorem n_chain {o1 o2 : COp} (hK : X.K = Z.K) (hu : X.A.units + 200 < cLine) (ha : PE X a (tE Z E X fa)) (hb : PE X b (tE Z E X fb)) (hc : PE X c (tE Z E X fc)) (hm : lastMarks [cOf o1, cOf o2] [b, c] = false) :
    PE X (.Compare a [cOf o1, cOf o2] [b, c] pos) (tE Z E X fun σ S => (fa σ S).bind fun x S1 => (fb σ S1).bind fun y S2 => match cmpV S2 o1 x y with
      | none => .bad
      | some false => .ok (.bl false) S2
      | some true => (fc σ S2).bind fun z S3 => ofO ((cmpV S3 o2 y z).map .bl) S3) :=
  peI (pe_chain (op_cmp hu o1) (op_cmp hu o2) ha hb hc hm) fun _ _ _ ⟨_, _, _, _, _, at_, p⟩ => n_chainG hK at_ p
theorem n_chainT {o1 o2 : COp} (hK : X.K = Z.K) (hu : X.A.units + 200 < cLine) (ha : PE X a (tE Z E X fa)) (hb : PE X b (tE Z E X fb)) (hc : PE X c (tE Z E X fc)) (hm : lastMarks [cOf o1, cOf o2] [b, c] = false) :
    PT X (.Compare a [cOf o1, cOf o2] [b, c] pos) (tT Z E X fun σ S => asB ((fa σ S).bind fun x S1 => (fb σ S1).bind fun y S2 => match cmpV S2 o1 x y with
      | none => .bad
      | some false => .ok (.bl false) S2
      | some true => (fc σ S2).bind fun z S3 => ofO ((cmpV S3 o2 y z).map .bl) S3)) :=
  ptI (pt_chain (op_cmp hu o1) (op_cmp hu o2) ha hb hc hm) fun _ _ _ ⟨_, _, _, _, _, at_, p⟩ => n_chainG hK at_ (asB_bl p)
theorem n_not (ha : PE X a (tE Z E X fa)) : PE X (.UnaryOp .Not a pos) (tE Z E X fun σ S => (asB (fa σ S)).bind fun b S1 => .ok (.bl !b) S1) :=
  peI (pe_not ha) fun _ _ _ ⟨_, _, _, _, _, at_, p⟩ => (at_.bstep p).imp fun _ _ ⟨c, _, _, e, a1, p1⟩ => ⟨c, e, Post.val (R := R1 Z _) p1 a1.r (.bl _)⟩
theorem n_notT (ha : PT X a (tT Z E X fun σ S => asB (fa σ S))) : PT X (.UnaryOp .Not a pos) (tT Z E X fun σ S => asB ((asB (fa σ S)).bind fun b S1 => .ok (.bl !b) S1)) :=
  ptI (pt_not ha) fun _ _ _ ⟨_, _, _, _, _, at_, p⟩ => by
    dsimp only at p
    rw [asB_bind] at p
    exact (at_.tstep p).imp fun c _ ⟨_, _, a1, p1⟩ => Post.val (R := Rb) p1 a1.r rfl
theorem n_and {rest : List Expr} (ha : PE X a (tE Z E X fa)) (hb : PE X (.BoolOp .And (b :: rest) pos) (tE Z E X fb)) : PE X (.BoolOp .And (a :: b :: rest) pos) (tE Z E X fun σ S => (asB (fa σ S)).bind fun k S1 => if k then fb σ S1 else .ok (.bl false) S1) :=
  peI (pe_and ha hb) fun _ _ _ ⟨F, _, _, σp, W, at_, p⟩ => (at_.bstep p).imp fun _ _ ⟨c, M1, S1, e, a1, p1⟩ => ⟨c, e, by
    cases c with
    | true => exact ⟨F, M1, S1, σp, W, a1, p1⟩
    | false => exact Post.val (R := R1 Z _) p1 a1.r (.bl _)⟩
theorem n_or {rest : List Expr} (ha : PE X a (tE Z E X fa)) (hb : PE X (.BoolOp .Or (b :: rest) pos) (tE Z E X fb)) : PE X (.BoolOp .Or (a :: b :: rest) pos) (tE Z E X fun σ S => (asB (fa σ S)).bind fun k S1 => if k then .ok (.bl true) S1 else fb σ S1) :=
  peI (pe_or ha hb) fun _ _ _ ⟨F, _, _, σp, W, at_, p⟩ => (at_.bstep p).imp fun _ _ ⟨c, M1, S1, e, a1, p1⟩ => ⟨c, e, by
    cases c with
    | false => exact ⟨F, M1, S1, σp, W, a1, p1⟩
    | true => exact Post.val (R := R1 Z _) p1 a1.r (.bl _)⟩
theorem pw_of {op : BoolOp} {es : List Expr} {t : TT} (h : PT X (.BoolOp op es pos) t) : PW X (.BoolOp op es pos) t := ⟨fun _ pins s σ H Q I q => h.run pins s σ H Q I q⟩
theorem n_andT {rest : List Expr} (ha : PT X a (tT Z E X fun σ S => asB (fa σ S))) (hb : PT X (.BoolOp .And (b :: rest) pos) (tT Z E X fun σ S => asB (fb σ S))) :
    PT X (.BoolOp .And (a :: b :: rest) pos) (tT Z E X fun σ S => asB ((asB (fa σ S)).bind fun k S1 => if k then fb σ S1 else .ok (.bl false) S1)) :=
  ptI (pw_and ha (pw_of hb)).pt fun _ _ _ ⟨F, _, _, σp, W, at_, p⟩ => by
    dsimp only at p
    rw [asB_bind] at p
    exact (at_.tstep p).imp fun c _ ⟨M1, S1, a1, p1⟩ => by
      cases c with
      | true =>
        rw [if_pos rfl]
        exact ⟨F, M1, S1, σp, W, a1, p1⟩
      | false =>
        rw [if_neg Bool.false_ne_true]
        exact Post.val (R := Rb) p1 a1.r rfl
theorem n_orT {rest : List Expr} (ha : PT X a (tT Z E X fun σ S => asB (fa σ S))) (hb : PT X (.BoolOp .Or (b :: rest) pos) (tT Z E X fun σ S => asB (fb σ S))) :
    PT X (.BoolOp .Or (a :: b :: rest) pos) (tT Z E X fun σ S => asB ((asB (fa σ S)).bind fun k S1 => if k then .ok (.bl true) S1 else fb σ S1)) :=
  ptI (pw_or ha (pw_of hb)).pt fun _ _ _ ⟨F, _, _, σp, W, at_, p⟩ => by
    dsimp only at p
    rw [asB_bind] at p
    exact (at_.tstep p).imp fun c _ ⟨M1, S1, a1, p1⟩ => by
      cases c with
      | false =>
        rw [if_neg Bool.false_ne_true]
        exact ⟨F, M1, S1, σp, W, a1, p1⟩
      | true =>
        rw [if_pos rfl]
        exact Post.val (R := Rb) p1 a1.r rfl
theorem n_ife (hc : PT X c (tT Z E X fun σ S => asB (fc σ S))) (ha : PE X a (tE Z E X fa)) (hb : PE X b (tE Z E X fb)) : PE X (.IfExp c a b pos) (tE Z E X fun σ S => (asB (fc σ S)).bind fun k S1 => if k then fa σ S1 else fb σ S1) :=
  peI (pe_ifExp hc ha hb) fun _ _ _ ⟨F, _, _, σp, W, at_, p⟩ => (at_.tstep p).imp fun c _ ⟨M1, S1, a1, p1⟩ => by
    cases c with
    | true =>
      rw [if_pos rfl]
      exact ⟨F, M1, S1, σp, W, a1, p1⟩
    | false =>
      rw [if_neg Bool.false_ne_true]
      exact ⟨F, M1, S1, σp, W, a1, p1⟩
theorem n_ifeT (hc : PT X c (tT Z E X fun σ S => asB (fc σ S))) (ha : PT X a (tT Z E X fun σ S => asB (fa σ S))) (hb : PT X b (tT Z E X fun σ S => asB (fb σ S))) :
    PT X (.IfExp c a b pos) (tT Z E X fun σ S => asB ((asB (fc σ S)).bind fun k S1 => if k then fa σ S1 else fb σ S1)) := by
  refine ⟨fun pins s σ H Q I ⟨F, M, S, σp, W, at_, p⟩ => ?_⟩
  dsimp only at p
  rw [asB_bind] at p
  refine isTrue_IfExp (thn (hc.run pins s σ H _ I (at_.tstep p)) fun k s1 ⟨H1, I1, M1, S1, a1, p1⟩ => ?_)
  cases k with
  | true =>
    rw [if_pos rfl]
    exact ha.run pins s1 σ H1 Q I1 ⟨F, M1, S1, σp, W, a1, p1⟩
  | false =>
    rw [if_neg Bool.false_ne_true]
    exact hb.run pins s1 σ H1 Q I1 ⟨F, M1, S1, σp, W, a1, p1⟩
theorem n_idx (hK : X.K = Z.K) (hu : X.A.units + 1 < cLine) (ha : PE X a (tE Z E X fa)) (hb : PE X b (tE Z E X fb)) (hs : PlainIx b) : PE X (.Subscript a b pos) (tE Z E X fun σ S => (fa σ S).bind fun x S1 => (fb σ S1).bind fun y S2 => ofO (idxV S2 x y) S2) := by
  have rule : IxR X (rIdx X.K) := IxR.or ix_list (IxR.or ix_tup (IxR.or ix_str fun value slice pins s σ H x y v u Q I rx ry h hs => ?_))
  · refine peI (pe_ix rule ha hb hs) fun σ H Q ⟨F, M, S, σp, W, at_, p⟩ => ?_
    refine (at_.seq p).imp fun x H1 ⟨v, M1, S1, x1, a1, r1, p1⟩ => (a1.seq p1).imp fun y H2 ⟨w, M2, S2, x2, a2, r2, p2⟩ => ?_
    obtain ⟨z, e, p3⟩ := p2.ofO
    rw [hK]
    exact idx_ok a2.r e (RV.mono a1.r x2 r1) r2 p3
  · obtain ⟨p, z, rfl, g, q⟩ := h
    cases rx
    exact tail_any (dict_typeIs I g) PySem.F.slot_dict_getitem.lookup (d_getItem hu I g ry fun w' s3 I3 rw' => ⟨z, H, I3, rw', q⟩) hs
end
end Ev

set_option Elab.async false
set_option linter.all false
set_option maxRecDepth 100000
/-! calls, methods, comprehensions, what is walked: one node each, beside the evaluator's -/
namespace Ev
open PySem PySem.Spec PyProof.Rows L2
section
variable {Z : Fx} {E : Ex} {X : Cx} {F M : List Addr} {S : Sto} {H : Hp} {W : XK} {σp : Sl} {σ : L2.St}
variable {a b c : Expr} {fa fb fc : Sl → Sto → Rs PV} {p pos : Pos}
theorem biB_boot {b : Blt} {n : String} (e : biB b = some n) : bootBuiltins (Str.ofString n) = some (.builtin n) := by cases b <;> cases e <;> decide +kernel
theorem biB_names {b : Blt} {n : String} (e : biB b = some n) : Str.ofString n ≠ Str.ofString "__name__" ∧ (Str.ofString n == Str.ofString "__debug__") = false := by cases b <;> cases e <;> decide +kernel
theorem biT_boot {b : Blt} {n : String} (e : biT b = some n) : bootBuiltins (Str.ofString n) = some (.type n) := by cases b <;> cases e <;> decide +kernel
theorem biT_names {b : Blt} {n : String} (e : biT b = some n) : Str.ofString n ≠ Str.ofString "__name__" ∧ (Str.ofString n == Str.ofString "__debug__") = false := by cases b <;> cases e <;> decide +kernel
theorem biB2_boot {b : Blt} {n : String} (e : biB2 b = some n) : bootBuiltins (Str.ofString n) = some (.builtin n) := by cases b <;> cases e <;> decide +kernel
theorem biB2_names {b : Blt} {n : String} (e : biB2 b = some n) : Str.ofString n ≠ Str.ofString "__name__" ∧ (Str.ofString n == Str.ofString "__debug__") = false := by cases b <;> cases e <;> decide +kernel
theorem ty_boot (t : Ty) : bootBuiltins (Str.ofString (tyName t)) = some (.type (tyName t)) := by cases t <;> decide +kernel
theorem ty_names (t : Ty) : Str.ofString (tyName t) ≠ Str.ofString "__name__" ∧ (Str.ofString (tyName t) == Str.ofString "__debug__") = false := by cases t <;> decide +kernel
theorem star1 (h : starEach [a] X.env = (false, eval a X.env) :: starEach [] X.env) : starEach [a] X.env = [(false, eval a X.env)] := h
theorem n_biB {bl : Blt} {n : String} (hK : X.K = Z.K) (hu : X.A.units + 200 < cLine) (hgu : X.A.guards = some []) (hc : X.calm = true) (e : biB bl = some n) (hg : Gl X (Str.ofString n)) (hm : X.mg (Str.ofString n) = none) (ha : PE X a (tE Z E X fa)) (hs : starEach [a] X.env = (false, eval a X.env) :: starEach [] X.env) :
    PE X (.Call (.Name (Str.ofString n) p) [a] [] pos) (tE Z E X fun σ S => (fa σ S).bind fun x S1 => ofO (biV S1 bl x) S1) := by
  refine peI (pe_callB (call_biB hu hgu hc e) hg hm (biB_boot e) (pa_cons ha pa_nil hs) (biB_names e).1 (biB_names e).2 hs rfl) fun σ H Q ⟨F, M, S, σp, W, at_, p⟩ => ?_
  refine (at_.seq p).imp fun x H1 ⟨v, M1, S1, x1, a1, r1, p1⟩ => ?_
  obtain ⟨z, e, p3⟩ := p1.ofO
  show rBi X.K bl [x] H1 Q
  rw [hK]
  exact bi_ok a1.r e r1 p3
theorem n_biT {bl : Blt} {n : String} (hK : X.K = Z.K) (e : biT bl = some n) (hg : Gl X (Str.ofString n)) (hm : X.mg (Str.ofString n) = none) (ha : PE X a (tE Z E X fa)) (hs : starEach [a] X.env = (false, eval a X.env) :: starEach [] X.env) :
    PE X (.Call (.Name (Str.ofString n) p) [a] [] pos) (tE Z E X fun σ S => (fa σ S).bind fun x S1 => ofO (biV S1 bl x) S1) := by
  refine peI (pe_callTy (call_biT e) hg hm (biT_boot e) (pa_cons ha pa_nil hs) (biT_names e).1 (biT_names e).2 hs rfl) fun σ H Q ⟨F, M, S, σp, W, at_, p⟩ => ?_
  refine (at_.seq p).imp fun x H1 ⟨v, M1, S1, x1, a1, r1, p1⟩ => ?_
  obtain ⟨z, e, p3⟩ := p1.ofO
  show rBi X.K bl [x] H1 Q
  rw [hK]
  exact bi_ok a1.r e r1 p3
theorem n_bi2 {bl : Blt} {n : String} (hc : X.calm = true) (e : biB2 bl = some n) (hg : Gl X (Str.ofString n)) (hm : X.mg (Str.ofString n) = none) (ha : PE X a (tE Z E X fa)) (hb : PE X b (tE Z E X fb)) (hs : starEach [a, b] X.env = (false, eval a X.env) :: starEach [b] X.env) (hs2 : starEach [b] X.env = (false, eval b X.env) :: starEach [] X.env) :
    PE X (.Call (.Name (Str.ofString n) p) [a, b] [] pos) (tE Z E X fun σ S => (fa σ S).bind fun x S1 => (fb σ S1).bind fun y S2 => ofO (biV2 bl x y) S2) := by
  refine peI (pe_callB (call_biB2 hc e) hg hm (biB2_boot e) (pa_cons ha (pa_cons hb pa_nil hs2) hs) (biB2_names e).1 (biB2_names e).2 hs (by rw [hs2]; rfl)) fun σ H Q ⟨F, M, S, σp, W, at_, p⟩ => ?_
  refine (at_.seq p).imp fun x H1 ⟨v, M1, S1, x1, a1, r1, p1⟩ => (a1.seq p1).imp fun y H2 ⟨w, M2, S2, x2, a2, r2, p2⟩ => ?_
  obtain ⟨z, e, p3⟩ := p2.ofO
  exact bi2_ok a2.r e (RV.mono a1.r x2 r1) r2 p3
theorem n_lof {m : Bool} (hK : X.K = Z.K) (hg : Gl X "list") (hm : X.mg "list" = none) (ha : PE X a (tE Z E X fa)) (hs : starEach [a] X.env = (false, eval a X.env) :: starEach [] X.env) :
    PE X (.Call (.Name "list" p) [a] [] pos) (tE Z E X fun σ S => (fa σ S).bind fun x S1 => match itemsOf S1 x with
      | some l => newL m l S1
      | none => .bad) := by
  refine peI (pe_callTy call_list_of hg hm (by decide +kernel) (pa_cons ha pa_nil hs) (by decide) (by decide) hs rfl) fun σ H Q ⟨F, M, S, σp, W, at_, p⟩ => ?_
  refine (at_.seq p).imp fun x H1 ⟨v, M1, S1, x1, a1, r1, p1⟩ => ?_
  cases e : itemsOf S1 v with
  | none => rw [e] at p1; exact p1.elim
  | some l =>
    rw [e] at p1
    show ∃ p ys, [x] = [V.ref p] ∧ (SqL X.K H1 p ys ∨ SqT X.K H1 p ys) ∧ _
    rw [hK]
    exact lof_ok a1.r e r1 p1
theorem n_isi {t : Ty} {p2 : Pos} (hK : X.K = Z.K) (hg : Gl X "isinstance") (hm : X.mg "isinstance" = none) (hgt : Gl X (Str.ofString (tyName t))) (hmt : X.mg (Str.ofString (tyName t)) = none) (ha : PE X a (tE Z E X fa)) (hs : ∀ q, starEach [a, .Name q p2] X.env = (false, eval a X.env) :: starEach [.Name q p2] X.env) :
    PE X (.Call (.Name "isinstance" p) [a, .Name (Str.ofString (tyName t)) p2] [] pos) (tE Z E X fun σ S => (fa σ S).bind fun x S1 => if tyOk S1 x then .ok (.bl (isTy S1 t x)) S1 else .bad) := by
  have ht : PE X (.Name (Str.ofString (tyName t)) p2) (tC (.ty (tyName t))) := pe_bltn hgt hmt (ty_boot t) rfl (ty_names t).1 (ty_names t).2
  refine peI (pe_callB (call_isi (X := X)) hg hm (by decide +kernel) (pa_cons ha (pa_cons ht pa_nil rfl) (hs _)) (by decide) (by decide) (hs _) rfl) fun σ H Q ⟨F, M, S, σp, W, at_, p⟩ => ?_
  refine (at_.seq p).imp fun x H1 ⟨v, M1, S1, x1, a1, r1, p1⟩ => ?_
  split at p1
  · rename_i ok
    obtain ⟨T, h1, h2⟩ := isi_ok a1.r r1 ok
    refine ⟨x, .ty (tyName t), _, _, _, rfl, .ty _, ?_, kit_ty (h2 t), Post.val p1 a1.r (.bl _)⟩
    rw [hK]
    exact h1
  · exact p1.elim
/-- names of types -/
theorem tys_pa {ts : List Ty} {ps : List Pos} (hl : ts.length = ps.length) (hgt : ∀ t ∈ ts, Gl X (Str.ofString (tyName t)) ∧ X.mg (Str.ofString (tyName t)) = none) :
    PA X ((ts.zip ps).map fun q => Expr.Name (Str.ofString (tyName q.1)) q.2) (fun _ H Q => Q (ts.map fun t => V.ty (tyName t)) H) := by
  induction ts generalizing ps with
  | nil => exact pa_nil
  | cons t ts ih =>
    cases ps with
    | nil => simp at hl
    | cons q qs =>
      have ht : PE X (.Name (Str.ofString (tyName t)) q) (tC (.ty (tyName t))) := pe_bltn (hgt t (List.mem_cons_self ..)).1 (hgt t (List.mem_cons_self ..)).2 (ty_boot t) rfl (ty_names t).1 (ty_names t).2
      exact pa_cons ht (ih (by simpa using hl) fun t ht => hgt t (List.mem_cons_of_mem _ ht)) rfl
theorem n_isis {ts : List Ty} {ps : List Pos} {k : Nat} {p2 : Pos} (hK : X.K = Z.K) (hl : ts.length = ps.length) (h15 : ts.length ≤ 100) (hg : Gl X "isinstance") (hm : X.mg "isinstance" = none) (hgt : ∀ t ∈ ts, Gl X (Str.ofString (tyName t)) ∧ X.mg (Str.ofString (tyName t)) = none) (ha : PE X a (tE Z E X fa))
    (hs : ∀ es, starEach [a, .Tuple es k p2] X.env = (false, eval a X.env) :: starEach [.Tuple es k p2] X.env) :
    PE X (.Call (.Name "isinstance" p) [a, .Tuple ((ts.zip ps).map fun q => Expr.Name (Str.ofString (tyName q.1)) q.2) k p2] [] pos) (tE Z E X fun σ S => (fa σ S).bind fun x S1 => if tyOk S1 x then .ok (.bl (ts.any fun t => isTy S1 t x)) S1 else .bad) := by
  have ht := pe_tup (x1 := k) (pos := p2) (tys_pa hl hgt)
  refine peI (pe_callB (call_isiT (X := X)) hg hm (by decide +kernel) (pa_cons ha (pa_cons ht pa_nil rfl) (hs _)) (by decide) (by decide) (hs _) rfl) fun σ H Q ⟨F, M, S, σp, W, at_, p⟩ => ?_
  refine (at_.seq p).imp fun x H1 ⟨v, M1, S1, x1, a1, r1, p1⟩ => ⟨?_, fun q hq => ?_⟩
  · rw [List.length_map]
    exact Nat.le_trans h15 (by decide)
  · split at p1
    · rename_i ok
      obtain ⟨r2, x2⟩ := a1.r.fresh (o := .tup (ts.map fun t => V.ty (tyName t))) hq
      obtain ⟨t, h1, h2⟩ := isis_ok r2 (RV.mono a1.r x2 r1) ok
      refine ⟨x, q, _, t, _, _, rfl, upd_same, tys_cls ts, ?_, ?_, Post.val (Post.ext p1 x2) r2 (.bl _)⟩
      · rw [hK]
        exact h1
      · rw [hK]
        exact h2 ts
    · exact p1.elim

/-! ### slices, methods -/
abbrev RO2 (Z : Fx) (F : List Addr) : List Addr → Hp → Option Int → Option Int → Prop := Rb
theorem n_po0 : PO X none (tG Z E X (fun _ => Rb) fun _ S => .ok none S) := ⟨fun pins s σ H Q I ⟨F, M, S, σp, W, a, q⟩ => po_none.run pins s σ H Q I (Post.val (R := Rb) q a.r rfl)⟩
theorem n_po1 (ha : PE X a (tE Z E X fa)) : PO X (some a) (tG Z E X (fun _ => Rb) fun σ S => (fa σ S).bind fun v S1 => match v with
    | .int i => .ok (some i) S1
    | _ => .bad) := ⟨fun pins s σ H Q I ⟨F, M, S, σp, W, at_, q⟩ => (po_some ha).run pins s σ H Q I (by
  refine (at_.seq q).imp fun x H1 ⟨v, M1, S1, x1, a1, r1, p1⟩ => ?_
  cases v with
  | int i =>
    cases r1
    exact ⟨i, rfl, Post.val (R := Rb) p1 a1.r rfl⟩
  | _ => exact p1.elim)⟩
theorem n_slc {m : Bool} {lo hi : Option Expr} {gl gh : Sl → Sto → Rs (Option Int)} (hK : X.K = Z.K) (ha : PE X a (tE Z E X fa)) (hl : PO X lo (tG Z E X (fun _ => Rb) gl)) (hh : PO X hi (tG Z E X (fun _ => Rb) gh)) :
    PE X (.Subscript a (.Slice lo hi none p) pos) (tE Z E X fun σ S => (fa σ S).bind fun x S1 => (gl σ S1).bind fun l S2 => (gh σ S2).bind fun h S3 => slcR m S3 x l h) := by
  refine peI (pe_slice (sl_slc (X := X)) ha hl hh) fun σ H Q ⟨F, M, S, σp, W, at_, p⟩ => ?_
  refine (at_.seq p).imp fun x H1 ⟨v, M1, S1, x1, a1, r1, p1⟩ => (a1.seq p1).imp fun l H2 ⟨l', M2, S2, x2, a2, r2, p2⟩ => (a2.seq p2).imp fun h H3 ⟨h', M3, S3, x3, a3, r3, p3⟩ => ?_
  have e1 : l' = l := r2
  have e2 : h' = h := r3
  subst e1 e2
  rw [hK]
  exact slc_ok a3.r (RV.mono a2.r x3 (RV.mono a1.r x2 r1)) p3
theorem n_meth {k : Mth} {es : List Expr} {g : Sl → Sto → Rs (List PV)} {apos : Pos} (hK : X.K = Z.K) (ha : PE X a (tE Z E X fa)) (hes : PA X (b :: es) (tA Z E X g))
    (hbase : attributeBase a (mtN k) X.env (eval a X.env) = eval a X.env)
    (hfew : ((backTo pos (starEach (b :: es) X.env)).all (fun x => !x.1) && (backToKw pos (keywordEach [] X.env)).all (fun x => x.1.isSome)
      && decide ((b :: es).length + ([] : List Keyword).length + (if ([] : List Keyword).isEmpty then 0 else 1) < 30)) = true)
    (hline : (apos.endLine == pos.line) = true) (hs : starEach (b :: es) X.env = (false, eval b X.env) :: starEach es X.env) (hplain : (backTo pos (starEach es X.env)).any (·.1) = false) :
    PE X (.Call (.Attribute a (mtN k) apos) (b :: es) [] pos) (tE Z E X fun σ S => (fa σ S).bind fun x S1 => if mTy S1 k x then (g σ S1).bind fun vs S2 => methV k x vs S2 else .bad) := by
  refine peI (pe_bm (mt_plain k) (mt_slot k) (mt_type k) (mt_ok (X := X) k) ha hes hbase hfew hline hs hplain) fun σ H Q ⟨F, M, S, σp, W, at_, p⟩ => ?_
  refine (at_.seq p).imp fun x H1 ⟨v, M1, S1, x1, a1, r1, p1⟩ => ?_
  split at p1
  · rename_i ok
    rw [hK]
    refine ⟨mty_ok a1.r ok r1, (a1.seq p1).imp fun xs H2 ⟨vs, M2, S2, x2, a2, r2, p2⟩ => ?_⟩
    exact meth_ok a2.r (RV.mono a1.r x2 r1) r2 p2
  · exact p1.elim
theorem n_meth0 {k : Mth} {apos : Pos} (hK : X.K = Z.K) (ha : PE X a (tE Z E X fa)) (hbase : attributeBase a (mtN k) X.env (eval a X.env) = eval a X.env) (hline : (apos.endLine == pos.line) = true) :
    PE X (.Call (.Attribute a (mtN k) apos) [] [] pos) (tE Z E X fun σ S => (fa σ S).bind fun x S1 => if mTy S1 k x then (Rs.ok ([] : List PV) S1).bind fun vs S2 => methV k x vs S2 else .bad) := by
  refine peI (pe_bm0 (mt_plain k) (mt_slot k) (mt_type k) (mt_ok (X := X) k) ha hbase hline) fun σ H Q ⟨F, M, S, σp, W, at_, p⟩ => ?_
  refine (at_.seq p).imp fun x H1 ⟨v, M1, S1, x1, a1, r1, p1⟩ => ?_
  split at p1
  · rename_i ok
    rw [hK]
    exact ⟨mty_ok a1.r ok r1, meth_ok a1.r r1 .nil p1⟩
  · exact p1.elim

/-! ### what is walked -/
abbrev RW (Z : Fx) (F : List Addr) : List Addr → Hp → Walk → It → Prop := fun M H w J => Wk Z F w M H J
abbrev tI (Z : Fx) (E : Ex) (X : Cx) (f : Sl → Sto → Rs Walk) : TI := tG Z E X (RW Z) f
theorem piI {tg e : Expr} {t t' : TI} (h : PI X tg e t) (k : ∀ σ H Q, t' σ H Q → t σ H Q) : PI X tg e t' := ⟨fun pins s σ H Q I q => h.run pins s σ H Q I (k σ H Q q)⟩
theorem n_seq {tg : Expr} (hK : X.K = Z.K) (ha : PE X a (tE Z E X fa)) : PI X tg a (tI Z E X fun σ S => (fa σ S).bind fun v S1 => match srcOf S1 v with
    | some l => .ok (l, match v with | .ref n => some n | _ => none) S1
    | none => .bad) := by
  refine piI (pi_any ha) fun σ H Q ⟨F, M, S, σp, W, at_, p⟩ => ?_
  refine (at_.seq p).imp fun x H1 ⟨v, M1, S1, x1, a1, r1, p1⟩ => ?_
  rw [hK]
  cases v with
  | str z =>
    cases r1
    exact .inr (.inr ⟨z, rfl, Post.val (R := RW Z F) (show Post Z E F (RW Z F) M1 H1 (.ok (z.cps.toList.map fun c => PV.str ⟨#[c]⟩, none) S1) Q W from p1) a1.r wk_str⟩)
  | tup l =>
    cases r1 with
    | tup h1 h2 => exact .inr (.inl ⟨_, rfl, ⟨_, h1⟩, Post.val (R := RW Z F) (show Post Z E F (RW Z F) M1 H1 (.ok (l, none) S1) Q W from p1) a1.r (wk_tup a1.r h1 h2)⟩)
  | lst l =>
    cases r1 with
    | lst h1 h2 h3 h4 => exact .inl ⟨_, rfl, ⟨_, .inl h1⟩, Post.val (R := RW Z F) (show Post Z E F (RW Z F) M1 H1 (.ok (l, none) S1) Q W from p1) a1.r (wk_lst a1.r h1 h3 h4)⟩
  | ref n =>
    cases r1 with
    | @ref _ a' h1 =>
      have p2 : Post Z E F (RW Z F) M1 H1 (match itemsOf S1 (.ref n) with
        | some l => .ok (l, some n) S1
        | none => .bad) Q W := p1
      cases e : itemsOf S1 (.ref n) with
      | none => rw [e] at p2; exact p2.elim
      | some l =>
        rw [e] at p2
        have e2 : S1[n]? = some (.lst l) := by
          have e3 : (match S1[n]? with
            | some (.lst l) => some l
            | _ => none) = some l := e
          split at e3
          · rename_i l2 e4
            cases e3
            exact e4
          · cases e3
        obtain ⟨xs, q1, q2⟩ := a1.r.ob n _ _ h1 e2
        exact .inl ⟨_, rfl, ⟨_, .inl (.inl q1)⟩, Post.val (R := RW Z F) p2 a1.r (wk_ref a1.r h1)⟩
  | non => exact p1.elim
  | bl _ => exact p1.elim
  | int _ => exact p1.elim
  | dct _ _ => exact p1.elim
  | err _ _ _ => exact p1.elim
theorem n_rng {tg : Expr} (hg : Gl X "range") (hm : X.mg "range" = none) (ha : PE X a (tE Z E X fa)) (hs : starEach [a] X.env = (false, eval a X.env) :: starEach [] X.env) :
    PI X tg (.Call (.Name "range" p) [a] [] pos) (tI Z E X fun σ S => (fa σ S).bind fun v S1 => match v with
      | .int i => if rngOk 0 i then .ok (rngItems 0 i, none) S1 else .bad
      | _ => .bad) := by
  refine piI (pi_range1 hg hm (pa_cons ha pa_nil hs) hs) fun σ H Q ⟨F, M, S, σp, W, at_, p⟩ => ?_
  refine (at_.seq p).imp fun x H1 ⟨v, M1, S1, x1, a1, r1, p1⟩ => ?_
  cases v with
  | int i =>
    cases r1
    dsimp only at p1
    split at p1
    · rename_i ok
      have ok2 := of_decide_eq_true ok
      refine ⟨i, rfl, ok2.2.2.1, ok2.2.2.2, ?_⟩
      have h := Post.val (R := RW Z F) p1 a1.r (wk_rng (lo := 0) (hi := i))
      rw [Int.sub_zero] at h
      exact h
    · exact p1.elim
  | _ => exact p1.elim
theorem n_rng2 {tg : Expr} (hg : Gl X "range") (hm : X.mg "range" = none) (ha : PE X a (tE Z E X fa)) (hb : PE X b (tE Z E X fb)) (hs : starEach [a, b] X.env = (false, eval a X.env) :: starEach [b] X.env) (hs2 : starEach [b] X.env = (false, eval b X.env) :: starEach [] X.env) :
    PI X tg (.Call (.Name "range" p) [a, b] [] pos) (tI Z E X fun σ S => (fa σ S).bind fun x S1 => (fb σ S1).bind fun y S2 => match x, y with
      | .int i, .int j => if rngOk i j then .ok (rngItems i j, none) S2 else .bad
      | _, _ => .bad) := by
  refine piI (pi_range2 hg hm (pa_cons ha (pa_cons hb pa_nil hs2) hs) (by rw [hs, hs2]; rfl) hs2) fun σ H Q ⟨F, M, S, σp, W, at_, p⟩ => ?_
  refine (at_.seq p).imp fun x H1 ⟨v, M1, S1, x1, a1, r1, p1⟩ => (a1.seq p1).imp fun y H2 ⟨w, M2, S2, x2, a2, r2, p2⟩ => ?_
  split at p2
  · cases r1; cases r2
    split at p2
    · rename_i ok
      exact ⟨_, _, rfl, of_decide_eq_true ok, Post.val (R := RW Z F) p2 a2.r wk_rng⟩
    · exact p2.elim
  · exact p2.elim

/-! ### comprehensions -/
/-- evaluated, and nothing raised -/
def tOk {α β : Type} (Z : Fx) (R : List Addr → List Addr → Hp → α → β → Prop) (f : Sl → Sto → Rs α) : L2.St → Hp → (β → Hp → Prop) → Prop := fun σ H Q =>
  ∃ F M S σp v S', Rel Z F M S H ∧ SlR Z F M H σp σ ∧ f σp S = .ok v S' ∧ ∀ M' H' u, Ext M H M' H' → Rel Z F M' S' H' → R F M' H' v u → Q u H'
theorem tOk.to {α β : Type} {R : List Addr → List Addr → Hp → α → β → Prop} {f : Sl → Sto → Rs α} {Q : β → Hp → Prop} (h : tOk Z R f σ H Q) : tG Z E X R f σ H Q := by
  obtain ⟨F, M, S, σp, v, S', r, sl, e, k⟩ := h
  refine ⟨F, M, S, σp, fun _ _ _ => False, ⟨LamX.takes0, r, sl⟩, ?_⟩
  rw [e]
  exact k
theorem lc_conv {m : Bool} {tg : Tg} {own : List Nat} {src : Sl → Sto → Rs Walk} {elt : Sl → Sto → Rs PV} {test : Sl → Sto → Rs Bool} (hK : X.K = Z.K) (hi : ∀ i ∈ tgIs tg, i ∈ own) {Q : VK}
    (h : tE Z E X (fun σ S => (src σ S).bind fun w S1 => (lcGo (fun S' => stays S' w) elt test tg (wipeP σ own) w.1 S1 []).bind fun vs S2 => newL m vs S2) σ H Q) :
    tLc (tI Z E X src) (gT X.K tg) (tOk Z (fun _ => Rb) test) (tOk Z (R1 Z) elt) own σ H Q := by
  obtain ⟨F, M, S, σp, W, at_, p⟩ := h
  rw [hK]
  refine (at_.seq p).imp fun J H1 ⟨w, M1, S1, x1, a1, r1, p1⟩ => ?_
  refine lc_ok a1.r a1.sl r1 hi (fun F M S H σp σ b S' Q r sl e k => ⟨F, M, S, σp, b, S', r, sl, e, fun M' H' u x r2 e2 => ?_⟩) (fun F M S H σp σ p S' Q r sl e k => ⟨F, M, S, σp, p, S', r, sl, e, k⟩) p1
  have e3 : b = u := e2
  rw [← e3]
  exact k M' H' x r2

/-! ### calls -/
/-- a def keeps its promise: what it does is told by sem -/
structure Runs (Z : Fx) (E : Ex) (P : Program) (w : World) (mg : Str → Option Value) (base : Heap) (n : Nat) (f : Addr) (fd : FuncData) (pn : List Str) (sem : List PV → Sto → Rs PV) : Prop where
  len : ∀ ps S, sem ps S ≠ .bad → ps.length = pn.length
  run : ∀ (A : Around) (outer : List Env) (s : Shared) (H : Hp) (args : Args) (us : List Value) (vs : List V) (ps : List PV) (F M : List Addr) (S : Sto) (Q : VK) (W : XK), Room n A → A.guards = some [] → Env0 P w Z.K mg base A outer s H →
    BindsTo s fd args (pn.zip us) → Vals vs us → Rel Z F M S H → RVs Z F M H ps vs → Post Z E F (R1 Z F) M H (sem ps S) Q W → codeAny (model P w) A (.call (.ref f) args) (CR (L2.CX P w) outer P w H s Q W) s
structure Def (Z : Fx) (E : Ex) (X : Cx) (n : Nat) (kw : Bool) (x : Str) (pn : List Str) (sem : List PV → Sto → Rs PV) : Prop where
  ex : ∃ f fd, X.mg x = some (.ref f) ∧ PySem.W.keepIn X.K (.ref f) = true ∧ (∀ (s : Shared) (us : List Value), Z.K.In s.heap → us.length = pn.length → BindsTo s fd ⟨us, []⟩ (pn.zip us)) ∧
    (kw = true → ∀ (s : Shared) (us : List Value), Z.K.In s.heap → us.length = pn.length → BindsTo s fd ⟨[], pn.zip us⟩ (pn.zip us)) ∧ Runs Z E X.prog X.w X.mg X.base n f fd pn sem
theorem post_nb {α β : Type} {R : List Addr → Hp → α → β → Prop} {r : Rs α} {Q : β → Hp → Prop} (h : Post Z E F R M H r Q W) : r ≠ .bad := fun e => by
  rw [e] at h
  exact h
theorem run_def {pins : List (Addr × Obj)} {s : Shared} {Q : VK} {n : Nat} {f : Addr} {fd : FuncData} {pn : List Str} {sem : List PV → Sto → Rs PV} {us : List Value} {vs : List V} {ps : List PV} {kw : List (Str × Value)} {args : List Value}
    (hK : X.K = Z.K) (hgu : X.A.guards = some []) (hr : Room n X.A) (R : Runs Z E X.prog X.w X.mg X.base n f fd pn sem) (hb : Z.K.In s.heap → us.length = pn.length → BindsTo s fd ⟨args, kw⟩ (pn.zip us))
    (at_ : At Z X F M S σp W σ H) (I : Inv X pins σ H s) (r : Vals vs us) (rv : RVs Z F M H ps vs) (p : Post Z E F (R1 Z F) M H (sem ps S) Q W) : wpAny (model X.prog X.w) X.A (call (.ref f) args kw) (EP X pins σ Q) X.xe s := by
  have hl : us.length = pn.length := by rw [← r.length, ← rv.len]; exact R.len ps S (post_nb p)
  have e0 := I.env0
  have kIn := I.kIn
  rw [hK] at e0 kIn
  refine wpAny_call (codeAny_mono (R.run X.A X.stack s H ⟨args, kw⟩ us vs ps F M S Q W hr hgu e0 (hb kIn hl) r at_.r rv p) fun r s' hq => ?_)
  cases r with
  | error e => exact L2.passes_call at_.tk (fun _ _ _ _ h => h) pins σ H s e s' I hq
  | ok fl =>
    cases fl with
    | ret u => exact I.after hq
    | next => exact False.elim hq
    | brk => exact False.elim hq
    | cont => exact False.elim hq
theorem n_call {n : Nat} {kw : Bool} {x : Str} {pn : List Str} {sem : List PV → Sto → Rs PV} {e : Expr} {es : List Expr} {g : Sl → Sto → Rs (List PV)} (hK : X.K = Z.K) (hgu : X.A.guards = some []) (hr : Room n X.A) (D : Def Z E X n kw x pn sem) (hg : Gl X x) (hdb : (x == ("__debug__" : Str)) = false)
    (ha : PA X (e :: es) (tA Z E X g)) (he : starEach (e :: es) X.env = (false, eval e X.env) :: starEach es X.env) (hpl : (backTo pos (starEach es X.env)).any (·.1) = false) :
    PE X (.Call (.Name x p) (e :: es) [] pos) (tE Z E X fun σ S => (g σ S).bind fun vs S1 => sem vs S1) := by
  obtain ⟨f, fd, hm, hk, hb, _, R⟩ := D.ex
  refine ⟨fun pins s σ H Q I ⟨F, M, S, σp, W, at_, p⟩ => ?_⟩
  refine wpAny_Call_Name_kw (ld_glob I hg hm ?_ hdb)
  refine PySem.W.callWith_K (h₀ := X.base) I.ok.mod.kin hk (thn (ha.run pos pins s σ H _ I (at_.seq p)) fun us s1 ⟨vs, H1, I1, r, v, M1, S1, x, a1, rv, p1⟩ => ⟨I1.kIn, ?_⟩) he hpl
  exact run_def hK hgu hr R (fun k l => hb s1 us k l) a1 I1 r rv p1
theorem n_callK {n : Nat} {x : Str} {pn : List Str} {sem : List PV → Sto → Rs PV} {kws : List Keyword} {g : Sl → Sto → Rs (List PV)} (hK : X.K = Z.K) (hgu : X.A.guards = some []) (hr : Room n X.A) (D : Def Z E X n true x pn sem) (hg : Gl X x) (hdb : (x == ("__debug__" : Str)) = false)
    (ha : PK X kws (tA Z E X g)) (hall : (backToKw pos (keywordEach kws X.env)).all (·.1.isSome) = true) (hks : (backToKw pos (keywordEach kws X.env)).filterMap (·.1) = pn)
    (hpl : ((backTo pos (starEach [] X.env)).any (·.1) || (backToKw pos (keywordEach kws X.env)).any (·.1.isNone)) = false) :
    PE X (.Call (.Name x p) [] kws pos) (tE Z E X fun σ S => (g σ S).bind fun vs S1 => sem vs S1) := by
  obtain ⟨f, fd, hm, hk, _, hb, R⟩ := D.ex
  refine ⟨fun pins s σ H Q I ⟨F, M, S, σp, W, at_, p⟩ => ?_⟩
  refine wpAny_Call_Name_kw (ld_glob I hg hm ?_ hdb)
  refine PySem.W.callWith_KW0 (h₀ := X.base) I.ok.mod.kin hk hall (thn (ha.run pos pins s σ H _ I (at_.seq p)) fun us s1 ⟨vs, H1, I1, r, v, M1, S1, x, a1, rv, p1⟩ => ⟨I1.kIn, ?_⟩) hpl
  rw [hks]
  exact run_def (args := []) hK hgu hr R (fun k l => hb rfl s1 us k l) a1 I1 r rv p1
theorem n_kcons {e : Expr} {nm : Option Str} {kp : Pos} {kws : List Keyword} {f : Sl → Sto → Rs PV} {g : Sl → Sto → Rs (List PV)} (h : PE X e (tE Z E X f)) (hr : PK X kws (tA Z E X g)) :
    PK X (⟨nm, e, kp⟩ :: kws) (tA Z E X fun σ S => (f σ S).bind fun v S1 => (g σ S1).bind fun vs S2 => .ok (v :: vs) S2) :=
  ⟨fun pos pins s σ H Q I ⟨F, M, S, σp, W, a, p⟩ => (pk_cons h hr).run pos pins s σ H Q I ((a.seq p).imp fun x H1 ⟨v, M1, S1, x1, a1, r1, p1⟩ => (a1.seq p1).imp fun xs H2 ⟨vs, M2, S2, x2, a2, r2, p2⟩ => Post.val (R := Rn Z F) p2 a2.r (RVs.cons (RV.mono a1.r x2 r1) r2))⟩
theorem n_knil : PK X [] (tA Z E X fun _ S => .ok [] S) := ⟨fun pos pins s σ H Q I ⟨F, M, S, σp, W, a, q⟩ => pk_nil.run pos pins s σ H Q I (Post.val (R := Rn Z F) q a.r RVs.nil)⟩
end
end Ev

set_option Elab.async false
set_option linter.all false
set_option maxRecDepth 100000
/-! an expression of the small language checked against the program's -/
namespace Ev
open PySem PySem.Spec PyProof.Rows L2
/-! ### a dict's display -/
section
variable {Z : Fx} {E : Ex} {X : Cx} {F M : List Addr} {S : Sto} {H : Hp} {W : XK} {σp : Sl} {σ : L2.St} {D : Addr}
theorem Rel.addF' {o : HO} (r : Rel Z F M S H) (hD : H D = none) (ho : ∀ ps, o ≠ .tbl ps) : Rel Z (D :: F) M S (upd H D o) := by
  obtain ⟨n1, n2⟩ := notIn_fresh r hD
  have ne : ∀ a, a ∈ M → a ≠ D := fun a h e => n2 (e ▸ h)
  refine ⟨r.len, r.nd, fun n a o h1 h2 => (r.ob n a o h1 h2).to (RVs.addF hD) (upd_ne (ne a (List.mem_of_getElem? h1))), fun a ha => ?_, fun a ha => ?_, tabs_upd r.tabs (fun ps e => by rw [hD] at e; cases e) (fun c q e => by rw [hD] at e; cases e)⟩
  · rcases List.mem_cons.mp ha with e | ha
    · rw [e]; exact n2
    · exact r.dis a ha
  · rcases List.mem_cons.mp ha with e | ha
    · exact ⟨_, by rw [e]; exact upd_same, ho⟩
    · obtain ⟨u, e, t⟩ := r.there a ha
      exact ⟨u, by rw [upd_ne (ne_of_none e hD)]; exact e, t⟩
theorem Rel.adopt' {so : SO} (r : Rel Z (D :: F) M S H) (nF : D ∉ F) (q : ObR Z F (M ++ [D]) H D so) : Rel Z F (M ++ [D]) (S ++ [so]) H := by
  have n2 : D ∉ M := r.dis D (List.mem_cons_self ..)
  refine ⟨by simp [r.len], List.nodup_append.mpr ⟨r.nd, by simp, fun a h b hb e => ?_⟩, fun n a o h1 h2 => ?_, fun a ha hm => ?_, fun a ha => r.there a (List.mem_cons_of_mem _ ha), r.tabs⟩
  · rw [List.mem_singleton.mp hb] at e
    exact n2 (e ▸ h)
  · by_cases hn : n < M.length
    · rw [List.getElem?_append_left hn] at h1
      rw [List.getElem?_append_left (by rw [← r.len]; exact hn)] at h2
      exact (r.ob n a o h1 h2).to RVs.adopt rfl
    · have e1 : n = M.length := by
        have := (List.getElem?_eq_some_iff.mp h1).1
        simp at this
        omega
      rw [e1, List.getElem?_append_right (Nat.le_refl _), Nat.sub_self] at h1
      rw [e1, r.len, List.getElem?_append_right (Nat.le_refl _), Nat.sub_self] at h2
      have e2 : D = a := by simpa using h1
      have e3 : so = o := by simpa using h2
      rw [← e2, ← e3]
      exact q
  · rcases List.mem_append.mp hm with h | h
    · exact r.dis a (List.mem_cons_of_mem _ ha) h
    · rw [List.mem_singleton.mp h] at ha
      exact nF ha
/-- the pairs of a display -/
def PD (Z : Fx) (E : Ex) (X : Cx) (pos : Pos) (ks : List Str) (keys : List (Option Expr)) (vals : List Expr) (g : Sl → Sto → Rs (List PV)) : Prop :=
  ∃ trs, PPs X pos keys vals trs ∧ ∀ (F M : List Addr) (S : Sto) (H : Hp) (W : XK) (σp : Sl) (σ : L2.St) (Q : List (V × V) → Hp → Prop), At Z X F M S σp W σ H →
    Post Z E F (Rn Z F) M H (g σp S) (fun xs H2 => Q ((ks.zip xs).map fun q => (V.str q.1, q.2)) H2) W → tPairs trs σ H Q
theorem pd_nil {pos : Pos} : PD Z E X pos [] [] [] (fun _ S => .ok [] S) := ⟨[], pps_nil, fun F M S H W σp σ Q a p => Post.val (R := Rn Z F) p a.r RVs.nil⟩
theorem pd_cons {pos kp : Pos} {j : Nat} {k : Str} {ks : List Str} {keys : List (Option Expr)} {e : Expr} {es : List Expr} {f : Sl → Sto → Rs PV} {g : Sl → Sto → Rs (List PV)} (h : PE X e (tE Z E X f)) (hr : PD Z E X pos ks keys es g) :
    PD Z E X pos (k :: ks) (some (.Constant (.str k) j kp) :: keys) (e :: es) (fun σ S => (f σ S).bind fun v S1 => (g σ S1).bind fun vs S2 => .ok (v :: vs) S2) := by
  obtain ⟨trs, h1, h2⟩ := hr
  refine ⟨(tC (.str k), tE Z E X f) :: trs, pps_cons pe_str h h1, fun F M S H W σp σ Q a p => ?_⟩
  show tE Z E X f σ H _
  refine (a.seq p).imp fun x H1 ⟨v, M1, S1, x1, a1, r1, p1⟩ => h2 F M1 S1 H1 W σp σ _ a1 ?_
  refine p1.bind.imp fun xs H2 ⟨vs, M2, S2, x2, r2, rv2, p2⟩ => ?_
  exact Post.val (R := Rn Z F) p2 r2 (RVs.cons (RV.mono a1.r x2 r1) rv2)
theorem zip_two {α β : Type} (ks : List α) (vs : List β) (h : vs.length = ks.length) : (ks.zip vs).map (·.1) = ks ∧ (ks.zip vs).map (·.2) = vs := zip_map ks vs h.symm
theorem n_dict {pos : Pos} {ks : List Str} {keys : List (Option Expr)} {vals : List Expr} {g : Sl → Sto → Rs (List PV)} (h : PD Z E X pos ks keys vals g) (hall : keys.all (·.isSome) = true) (hl : keys.length = vals.length) (h0 : keys ≠ []) (h15 : keys.length ≤ 15) :
    PE X (.Dict keys vals pos) (tE Z E X fun σ S => (g σ S).bind fun vs S1 => if vs.length = ks.length ∧ ks.length ≤ 15 ∧ ks.Nodup then .ok (.ref S1.length) (S1 ++ [.dct ((ks.map Sum.inr).zip vs)]) else .bad) := by
  obtain ⟨trs, h1, h2⟩ := h
  refine peI (pe_disp h1 hall hl h0 h15) fun σ H Q ⟨F, M, S, σp, W, a, p⟩ D hD => ?_
  obtain ⟨nF, nM⟩ := notIn_fresh a.r hD
  have r0 : Rel Z (D :: F) M S (upd H D (.dK [])) := a.r.addF' hD fun _ z => nomatch z
  obtain ⟨_, x0⟩ := a.r.fresh (o := .dK []) hD
  refine h2 (D :: F) M S _ W σp σ _ ⟨a.tk, r0, a.sl.addF hD⟩ ?_
  dsimp only at p
  cases hg : g σp S with
  | bad => rw [hg] at p; exact p.elim
  | ex c fs S' =>
    rw [hg] at p
    exact fun M' H' cls d x r q => p M' H' cls d (x0.trans x) r.subF q
  | ok vs S' =>
    rw [hg] at p
    intro M2 H2 xs x r rv
    have rv : RVs Z (D :: F) M2 H2 vs xs := rv
    have p : Post Z E F (R1 Z F) M H (if vs.length = ks.length ∧ ks.length ≤ 15 ∧ ks.Nodup then .ok (.ref S'.length) (S' ++ [.dct ((ks.map Sum.inr).zip vs)]) else .bad) Q W := p
    split at p
    · rename_i c
      have nM2 : D ∉ M2 := r.dis D (List.mem_cons_self ..)
      have d2 : H2 D = some (.dK []) := x.keep D _ upd_same nM fun _ z => nomatch z
      have hlx : xs.length = (ks.map (Sum.inr : Str → Key)).length := by rw [← rv.len, c.1, List.length_map]
      have z1 := zip_two (ks.map (Sum.inr : Str → Key)) xs hlx
      have z2 := zip_two (ks.map (Sum.inr : Str → Key)) vs (by rw [c.1, List.length_map])
      refine ⟨d2, (ks.map Sum.inr).zip xs, ?_, ?_, ?_⟩
      · rw [List.zip_map_left, List.map_map]
        exact List.map_congr_left fun q _ => rfl
      · rw [List.length_zip, List.length_map]
        exact Nat.le_trans (Nat.min_le_left _ _) c.2.1
      · have em : mergeK [] ((ks.map (Sum.inr : Str → Key)).zip xs) = (ks.map Sum.inr).zip xs := mergeK_new (by
          rw [List.nil_append, z1.1]
          exact c.2.2.map _ fun a b h e => h (Sum.inr.inj e))
        rw [em]
        have ra : Rel Z F (M2 ++ [D]) (S' ++ [.dct []]) H2 := r.adopt' nF ⟨[], d2, rfl, .nil⟩
        have hat : (M2 ++ [D])[S'.length]? = some D := by rw [← r.len]; simp
        obtain ⟨rp, xp⟩ := ra.put (o := .dK ((ks.map Sum.inr).zip xs)) (so := .dct ((ks.map Sum.inr).zip vs)) hat fun xp => ⟨_, upd_same, by rw [z1.1, z2.1], by
          rw [z1.2, z2.2]
          exact RVs.mono ra xp (RVs.adopt rv)⟩
        have es : (S' ++ [SO.dct []]).set S'.length (.dct ((ks.map Sum.inr).zip vs)) = S' ++ [.dct ((ks.map Sum.inr).zip vs)] := by simp
        rw [es] at rp
        exact p (M2 ++ [D]) _ (.ref D) (((x0.trans x).adopt hD).past hD) rp (.ref hat)
    · exact p.elim
end

/-! ### the check -/
structure Lk where
  fns : List (Str × List Str)
  gls : List Str
  bts : List Str
  kws : List Str
def visB (sc : Scope) (x : Str) : Bool := match sc.names.lookup x with
  | some .local => true
  | some .cell => true
  | some .free => true
  | _ => false
def glB (sc : Scope) (x : Str) : Bool := decide (sc.names.lookup x = some .globalImplicit)
def okN (x : Str) : Bool := !(x == ("__debug__" : Str)) && !(x == ("__classdict__" : Str))
def noStar : Expr → Bool
  | .Starred _ _ => false
  | _ => true
def noSlice : Expr → Bool
  | .Slice _ _ _ _ => false
  | _ => true
def notSet : Expr → Bool
  | .Set _ _ _ => false
  | _ => true
def notSup : Expr → Bool
  | .Call (.Name _ _) [] [] _ => false
  | _ => true
def plainT : Expr → Bool
  | .UnaryOp .Not _ _ => false
  | .BoolOp _ _ _ => false
  | .IfExp _ _ _ _ => false
  | .Compare _ _ _ _ => false
  | _ => true
section
variable {env : Env} {e : Expr} {es : List Expr}
theorem visB_ok {sc : Scope} {x : Str} (h : visB sc x = true) : Vis sc x := by
  unfold visB at h
  split at h <;> first | exact .inl (by assumption) | exact .inr (.inl (by assumption)) | exact .inr (.inr (by assumption)) | cases h
theorem star_ok (h : noStar e = true) : starEach (e :: es) env = (false, eval e env) :: starEach es env := by cases e <;> first | rfl | (simp [noStar] at h)
theorem stars_ok {pos : Pos} (h : es.all noStar = true) : (∀ q ∈ backTo pos (starEach es env), q.1 = false) := by
  induction es with
  | nil => intro q hq; cases hq
  | cons e es ih =>
    have h2 : noStar e = true ∧ es.all noStar = true := by simpa using h
    rw [star_ok h2.1]
    intro q hq
    rcases List.mem_cons.mp hq with e1 | hq
    · rw [e1]
    · exact ih h2.2 q hq
theorem plain_any {pos : Pos} (h : es.all noStar = true) : (backTo pos (starEach es env)).any (·.1) = false := by
  rw [List.any_eq_false]
  exact fun q hq => by rw [stars_ok h q hq]; exact Bool.false_ne_true
theorem plain_all {pos : Pos} (h : es.all noStar = true) : (backTo pos (starEach es env)).all (fun x => !x.1) = true := by
  rw [List.all_eq_true]
  exact fun q hq => by rw [stars_ok h q hq]; rfl
theorem slice_ok (h : noSlice e = true) : PlainIx e := by cases e <;> first | (intro o i; rfl) | (simp [noSlice] at h)
theorem set_ok (h : notSet e = true) : (∀ x, foldedSetIterable e env x = pure x) ∧ ∀ op, behindInMarks op e = false := by cases e <;> first | exact ⟨fun _ => rfl, fun _ => rfl⟩ | (simp [notSet] at h)
theorem sup_ok {m : Str} {w : Sem Value} (h : notSup e = true) : attributeBase e m env w = w := by
  unfold attributeBase
  split
  · simp [notSup] at h
  · rfl
theorem plainT_ok (h : plainT e = true) : ∀ whole, isTrue e env whole = (do let v ← whole; standAt e.pos; holding [v] (truthy v)) := by
  cases e with
  | UnaryOp op a p => cases op <;> first | (intro _; rfl) | (simp [plainT] at h)
  | _ => first | (intro _; rfl) | (simp [plainT] at h)
end
def opB : BOp → Operator → Bool
  | .add, .Add => true | .sub, .Sub => true | .mul, .Mult => true | .fdiv, .FloorDiv => true | .mod, .Mod => true | .pow, .Pow => true
  | _, _ => false
theorem opB_ok {b : BOp} {o : Operator} (h : opB b o = true) : o = opOf b := by cases b <;> cases o <;> first | rfl | cases h
def copB : COp → CmpOp → Bool
  | .eq, .Eq => true | .ne, .NotEq => true | .lt, .Lt => true | .le, .LtE => true | .gt, .Gt => true | .ge, .GtE => true | .isN, .Is => true | .notN, .IsNot => true | .isin, .In => true | .notin, .NotIn => true
  | _, _ => false
theorem copB_ok {b : COp} {o : CmpOp} (h : copB b o = true) : o = cOf b := by cases b <;> cases o <;> first | rfl | cases h
def cstB : PV → Expr → Bool
  | .int i, .Constant (.int j) _ _ => i == j
  | .int i, .UnaryOp .USub (.Constant (.int j) _ _) _ => i == -j
  | .bl b, .Constant (.bool c) _ _ => b == c
  | .non, .Constant .none _ _ => true
  | .str x, .Constant (.str y) _ _ => x == y
  | _, _ => false
theorem n_neg {X : Cx} {j : Int} {k : Nat} {p q : Pos} : PE X (.UnaryOp .USub (.Constant (.int j) k p) q) (tC (.int (-j))) := peI (pe_un un_neg pe_int) fun σ H Q h => ⟨j, rfl, h⟩
theorem cst_ok {X : Cx} {Z : Fx} {p : PV} {e : Expr} (h : cstB p e = true) : plainT e = true ∧ ∃ v, PE X e (tC v) ∧ ∀ F M H, RV Z F M H p v := by
  unfold cstB at h
  split at h
  · rw [beq_iff_eq.mp h]; exact ⟨rfl, _, pe_int, fun _ _ _ => .int _⟩
  · rw [beq_iff_eq.mp h]; exact ⟨rfl, _, n_neg, fun _ _ _ => .int _⟩
  · rw [beq_iff_eq.mp h]; exact ⟨rfl, _, pe_bl, fun _ _ _ => .bl _⟩
  · exact ⟨rfl, _, pe_non, fun _ _ _ => .non⟩
  · rw [beq_iff_eq.mp h]; exact ⟨rfl, _, pe_str, fun _ _ _ => .str _⟩
  · cases h
def inB : Option Scope → Str → Bool
  | none, _ => true
  | some s, x => decide (s.names.lookup x = some .cell)
/-- where a target may stand -/
def stB (inner : Option Scope) (sc : Scope) (x : Str) : Bool := match sc.names.lookup x with
  | some .local => true
  | some .cell => inB inner x
  | _ => false
def tg1B (N : List Str) (inner : Option Scope) (sc : Scope) (i : Nat) : Expr → Bool
  | .Name x _ => decide (N[i]? = some x) && stB inner sc x
  | _ => false
def tgsB (N : List Str) (inner : Option Scope) (sc : Scope) : List Nat → List Expr → Bool
  | [], [] => true
  | i :: is, e :: es => tg1B N inner sc i e && tgsB N inner sc is es
  | _, _ => false
def tgB (N : List Str) (inner : Option Scope) (sc : Scope) : Tg → Expr → Bool
  | .one i, e => tg1B N inner sc i e
  | .many is, .Tuple es _ _ => tgsB N inner sc is es
  | _, _ => false
theorem st_ok {X : Cx} {inner : Option Scope} {sc : Scope} {x : Str} (hsc : X.env.scope = sc) (hfn : ∀ x, inB inner x = true → X.fn x = true) (h : stB inner sc x = true) : Loc X.env.scope x ∧ (X.fn x = true ∨ X.env.scope.names.lookup x = some .local) := by
  unfold stB at h
  rw [hsc]
  split at h
  · rename_i e
    exact ⟨.inl e, .inr e⟩
  · rename_i e
    exact ⟨.inr e, .inl (hfn x h)⟩
  · cases h
section
variable {X : Cx} {N : List Str} {inner : Option Scope} {sc : Scope} (hN : X.N = N) (nd : X.N.Nodup) (hsc : X.env.scope = sc) (hfn : ∀ x, inB inner x = true → X.fn x = true)
include hN nd hsc hfn
theorem tg1_ok {i : Nat} {e : Expr} (h : tg1B N inner sc i e = true) : PG X e (gName i) ∧ ∃ x p, e = .Name x p := by
  cases e <;> first | (simp [tg1B] at h; done) | skip
  rename_i x p
  have h2 : N[i]? = some x ∧ stB inner sc x = true := by simpa [tg1B] using h
  obtain ⟨l1, l2⟩ := st_ok hsc hfn h2.2
  exact ⟨pg_name nd (by rw [hN]; exact h2.1) l1 l2, x, p, rfl⟩
theorem tgs_ok : ∀ {is : List Nat} {es : List Expr}, tgsB N inner sc is es = true → PGs X es (gNames is) ∧ (assignEach es X.env).length = is.length ∧ (assignEach es X.env).findIdx? (·.1) = none
  | [], [], _ => ⟨pgs_nil, rfl, rfl⟩
  | [], _ :: _, h => by simp [tgsB] at h
  | _ :: _, [], h => by simp [tgsB] at h
  | i :: is, e :: es, h => by
    have h2 : tg1B N inner sc i e = true ∧ tgsB N inner sc is es = true := by simpa [tgsB] using h
    obtain ⟨h3, x, p, rfl⟩ := tg1_ok hN nd hsc hfn h2.1
    obtain ⟨g1, g2, g3⟩ := tgs_ok h2.2
    refine ⟨pgs_cons h3 g1 rfl, ?_, ?_⟩
    · show (assignEach es X.env).length + 1 = _
      rw [g2] <;> rfl
    · show ((false, _) :: assignEach es X.env).findIdx? (·.1) = none
      rw [List.findIdx?_cons, g3] <;> rfl
theorem tgB_ok (hc : X.calm = true) {tg : Tg} {e : Expr} (h : tgB N inner sc tg e = true) : PG X e (gT X.K tg) := by
  cases tg with
  | one i => exact (tg1_ok hN nd hsc hfn h).1
  | many is =>
    cases e <;> first | (simp [tgB] at h; done) | skip
    obtain ⟨g1, g2, g3⟩ := tgs_ok hN nd hsc hfn h
    exact pg_tup hc g1 g2 g3
end
end Ev

set_option Elab.async false
set_option linter.all false
set_option maxRecDepth 100000
set_option maxHeartbeats 1000000
/-! enumerate(reversed(a tuple)) -/
namespace Ev
open PySem PySem.Spec PyProof.Rows L2
section
variable {prog : Program} {w : World} {A : Around} {E : Value → Shared → Prop} {s : Shared}
theorem nextOf_rt_item {it t : Addr} {i : Nat} {items : Array Value} {x : Value} {Q : Value → Shared → Prop} (hit : RT.IsRt s.heap it t (i : Int)) (ht : IsTup s.heap t items) (hx : items[i]? = some x) (hsz : items.size ≤ sizeLine)
    (hQ : ∀ h', RT.IsRt h' it t ((i : Int) - 1) → Heap.SameBut it s.heap h' → Q x { s with heap := h', toks := s.toks + 1 }) : wpAny (model prog w) A (Builtin.SmallTypes.nextOf (.ref it)) Q E s := by
  obtain ⟨o, ho, hc, hd⟩ := id hit
  have hi : i < items.size := (Array.getElem?_eq_some_iff.mp hx).1
  have hT : s.TypeIs (.ref t) "tuple" := RT.IsTup.typeOf' ht
  rw [sizeLine_eq] at hsz
  unfold Builtin.SmallTypes.nextOf
  refine wpAny_bind (wpAny_callSpecial?_slot (name := Str.ofString "__next__") hit.typeIs RT.slot_rt_next
    (wpAny_call_entry RT.slot_rt_next hit.typeIs RT.entry_rt_next ?_ (RT.args_rt_next _)))
  unfold Builtin.«reversed.__next__»
  refine wpAny_bind (wpAny_of_eq (a := (Value.ref it, [])) rfl ?_)
  try dsimp only
  refine wpAny_bind (wpAny_field ho hd (x := .ref t) rfl ?_)
  try dsimp only
  refine wpAny_bind (wpAny_field ho hd (x := rawInt (i : Int)) rfl ?_)
  show wpAny _ _ (if (i : Int) < 0 then _ else _) _ _ s
  rw [if_neg (by omega)]
  try dsimp only
  refine wpAny_bind (wpAny_specialOf hT RT.get_tuple ?_)
  try dsimp only
  try rw [if_neg (by decide)]
  try dsimp only
  refine wpAny_bind (wpAny_mkInt ?_)
  refine wpAny_bind (wpAny_attempt ?_)
  have fin : seqIndex? (i : Int) items.size = some i := seqIndex_of (by omega) (by omega)
  refine PyProof.Rows.getItem_tuple (s := { s with toks := s.toks + 1 }) ht (by omega) (by omega) fin hx ?_
  try dsimp only
  refine wpAny_bind (wpAny_field (s := { s with toks := s.toks + 1 }) ho hd (x := rawInt (i : Int)) rfl ?_)
  try dsimp only
  refine wpAny_bind (wpAny_setField (s := { s with toks := s.toks + 1 }) ho hd (by simp) ?_)
  first
  | refine wpAny_pure ⟨x, rfl, wpAny_pure (hQ _ ?_ (Heap.SameBut.update ..))⟩
  | refine wpAny_bind (wpAny_pure (wpAny_pure ⟨x, rfl, wpAny_pure (hQ _ ?_ (Heap.SameBut.update ..))⟩))
  exact ⟨_, Heap.get?_update_self _ ho (Obj.isFreed_of_fields (Obj.data_mapFields hd _)), (Obj.cls_mapFields ..).trans hc, by
    rw [Obj.data_mapFields hd]; simp⟩
theorem nextOf_rt_end {it t : Addr} {Q : Value → Shared → Prop} (hh : A.handled = none) (hit : RT.IsRt s.heap it t (-1))
    (hE : ∀ h' e, Heap.ExtBut it s.heap h' → (∃ o, h'.get? e = some o ∧ o.cls = .type "StopIteration") → E (.ref e) { s with heap := h' }) : wpAny (model prog w) A (Builtin.SmallTypes.nextOf (.ref it)) Q E s := by
  obtain ⟨o, ho, hc, hd⟩ := id hit
  unfold Builtin.SmallTypes.nextOf
  refine wpAny_bind (wpAny_callSpecial?_slot (name := Str.ofString "__next__") hit.typeIs RT.slot_rt_next
    (wpAny_call_entry RT.slot_rt_next hit.typeIs RT.entry_rt_next ?_ (RT.args_rt_next _)))
  unfold Builtin.«reversed.__next__»
  refine wpAny_bind (wpAny_of_eq (a := (Value.ref it, [])) rfl ?_)
  try dsimp only
  refine wpAny_bind (wpAny_field ho hd (x := .ref t) rfl ?_)
  try dsimp only
  refine wpAny_bind (wpAny_field ho hd (x := rawInt (-1)) rfl ?_)
  show wpAny _ _ (if (-1 : Int) < 0 then _ else _) _ _ s
  rw [if_pos (by decide)]
  try dsimp only
  refine wpAny_bind (wpAny_rule ?_)
  refine wpAny_bind ?_
  wp_delta
  refine wpAny_bind (wpAny_setField ho hd (by simp) ?_)
  have ho2 := Heap.get?_update_self (Obj.mapFields (·.setIfInBounds 1 (rawInt (-1)))) ho (Obj.isFreed_of_fields (Obj.data_mapFields hd _))
  refine wpAny_setField (s := { s with heap := s.heap.update it (Obj.mapFields (·.setIfInBounds 1 (rawInt (-1)))) }) ho2 (Obj.data_mapFields hd _) (by simp) ?_
  try dsimp only
  first
  | show wpAny _ _ (newExc (.type "StopIteration") [] >>= _) _ _ _
  | (refine wpAny_bind ?_; show wpAny _ _ (newExc (.type "StopIteration") [] >>= _) _ _ _)
  | (refine wpAny_bind ?_; wp_delta; show wpAny _ _ (newExc (.type "StopIteration") [] >>= _) _ _ _)
  refine wpAny_bind ?_
  simp only [newExc, newTuple]
  refine wpAny_bind (wpAny_newObj_type ?_ (by size_fits))
  refine wpAny_bind (m := firstArgMember _ _) (wpAny_of_eq (a := Value.none) (by first | rfl | (simp only [firstArgMember]; rfl)) ?_)
  refine wpAny_newObj_type ?_ (by size_fits)
  simp only [raiseNew]
  refine wpAny_bind (wpAny_handled ?_)
  first | rw [show A.in1.handled = none from hh] | rw [hh]
  refine wpAny_bind (wpAny_pure (wpAny_throw ?_))
  refine hE _ _ ?_ ⟨_, Heap.get?_push_size _ rfl, rfl⟩
  refine ((?_ : Heap.ExtBut it s.heap _).push _).push _
  exact fun b ob hb e => (Heap.get?_update_other _ _ (Ne.symm hb)).trans ((Heap.get?_update_other _ _ (Ne.symm hb)).trans e)
/-- reversed(t) draws, t untouched -/
theorem draws_rt (hh : A.handled = none) {it t : Addr} (hne : t ≠ it) {items : Array Value} (hsz : items.size ≤ sizeLine) :
    Draws prog w A it [it, t] items.size (fun i x => items[items.size - 1 - i]? = some x) (fun i h => RT.IsRt h it t ((items.size : Int) - 1 - (i : Nat)) ∧ IsTup h t items ∧ i ≤ items.size) where
  live := fun i h st => let ⟨⟨o, ho, _⟩, _⟩ := st; ⟨o, ho⟩
  frame := fun i h h' st k => ⟨st.1.at fun o e => k it (by simp) o e, let ⟨o, ho, r⟩ := st.2.1; ⟨o, k t (by simp) o ho, r⟩, st.2.2⟩
  item := fun i s Q E hi st hQ => by
    obtain ⟨h1, h2, h3⟩ := st
    have hx : items[items.size - 1 - i]? = some items[items.size - 1 - i] := Array.getElem?_eq_getElem (by omega)
    have e1 : (items.size : Int) - 1 - (i : Nat) = ((items.size - 1 - i : Nat) : Int) := by omega
    rw [e1] at h1
    refine nextOf_rt_item h1 h2 hx hsz fun h' a b => hQ _ h' _ hx ⟨?_, ?_, hi⟩ b
    · have e2 : ((items.size - 1 - i : Nat) : Int) - 1 = (items.size : Int) - 1 - ((i + 1 : Nat) : Int) := by omega
      rw [← e2]
      exact a
    · obtain ⟨o, ho, r⟩ := h2
      exact ⟨o, (b.2 t hne).trans ho, r⟩
  done := fun s Q E st hE => by
    obtain ⟨h1, h2, h3⟩ := st
    have e1 : (items.size : Int) - 1 - ((items.size : Nat) : Int) = -1 := by omega
    rw [e1] at h1
    exact nextOf_rt_end hh h1 hE
theorem meets_enumerate_newR (a t : Addr) (i : Int) (dct : Option Addr) (sl : Array (Option Value)) :
    Meets (Builtin.«enumerate.__new__» ⟨[.type "enumerate", .ref a], []⟩) (fun _ R s => s.heap.get? a = some { cls := .type "reversed", dict := dct, data := .fields #[.ref t, rawInt i], slots := sl } ∧
      R (.ok (.ret (.ref s.heap.objs.size))) { s with heap := s.heap.push { cls := .type "enumerate", data := .fields #[.none, .bool false, .ref a, rawInt 0, .none, .none] } }) :=
  .of_wp fun prog w A R s h => by
    obtain ⟨hp, g, d, tk, os⟩ := s; obtain ⟨hl, h⟩ := h
    have hsub := sub_enumerate
    have hL : RT.IsRt (Shared.heap ⟨hp, g, d, tk, os⟩) a t i := ⟨_, hl, rfl, rfl⟩
    wp_walk using AutoSeq1.wpAny_loadPart' hl
    refine wpAny_stack_any fun st => wpAny_pure ?_
    split
    · rename_i c _ _ _ _ _
      cases (c == Value.type "enumerate")
      · wp_walk using AutoSeq1.wpAny_loadPart' hl, RT.iter_rt hL
        exact ⟨_, rfl, h⟩
      · wp_walk using AutoSeq1.wpAny_loadPart' hl, RT.iter_rt hL
        exact ⟨_, rfl, h⟩
    · wp_walk using AutoSeq1.wpAny_loadPart' hl, RT.iter_rt hL
      exact ⟨_, rfl, h⟩
theorem call_enumerate_rt {a t : Addr} {i : Int} {Q : Value → Shared → Prop} (hL : RT.IsRt s.heap a t i)
    (h : Q (.ref s.heap.objs.size) { s with heap := s.heap.push { cls := .type "enumerate", data := .fields #[.none, .bool false, .ref a, rawInt 0, .none, .none] } }) :
    wpAny (model prog w) A (call (.type "enumerate") [.ref a]) Q E s := by
  obtain ⟨⟨c, dct, dt, sl⟩, hl, hc, hd⟩ := hL
  replace hc : c = .type "reversed" := hc
  replace hd : dt = .fields #[.ref t, rawInt i] := hd
  subst hc hd
  refine callType_new F.called_enumerate (by decide) (F.typeCall_enumerate_1 _) (F.newCall_enumerate_1 _) (fun obj => F.args_object_init_2 obj _) F.entry_enumerate_new
    (meets_enumerate_newR a t i dct sl) ⟨hl, ⟨_, Heap.get?_push_size _ rfl, rfl⟩, h⟩
end
/-- the pairs of enumerate(reversed(the tuple at a)) -/
def ItE (K : PySem.W.Frag) (a : Addr) (n : Nat) : It :=
  ⟨fun i H => i < n ∧ ∃ (xs : List V) (x : V), SqT K H a xs ∧ xs.length = n ∧ xs[n - 1 - i]? = some x, fun i H v H' => ∃ T x, v = .ref T ∧ H T = none ∧ H' = upd H T (.tup [.int (i : Nat), x]) ∧ ∀ xs, SqT K H a xs → xs[n - 1 - i]? = some x, fun i H => n ≤ i ∧ ∃ (xs : List V), SqT K H a xs ∧ xs.length = n⟩

theorem turn_enr {P : Program} {w : World} {K : PySem.W.Frag} {elts : List Expr} {kk : Nat} {tpos : Pos} (a e it : Addr) (n : Nat) :
    Turn P w K (.Tuple elts kk tpos) (ItE K a n) [e, it] e (fun i h => (∃ old, IsEnum h e it ((i : Nat) : Int) old) ∧ (i ≤ n ∧ RT.IsRt h it a ((n : Int) - 1 - (i : Nat))) ∧ e ≠ it) where
  mem := by simp
  obj := fun i h st b hb => by
    obtain ⟨⟨old, he⟩, ⟨_, o, ho, hc, hd⟩, _⟩ := st
    have e' : b = e ∨ b = it := by simpa using hb
    rcases e' with z | z
    · rw [z]; exact ⟨_, he, fun v q => nomatch q⟩
    · rw [z]; exact ⟨o, ho, fun v q => by rw [hd] at q; cases q⟩
  keep := fun i h h' st k => let ⟨⟨old, he⟩, hi, hne⟩ := st; ⟨⟨old, k e (by simp) _ he⟩, ⟨hi.1, hi.2.at fun o q => k it (by simp) o q⟩, hne⟩
  item := by
    intro X hP hw hK hc i pins s σ H E I hf st hg
    subst hP hw hK
    obtain ⟨⟨old, he⟩, ⟨hi, hit⟩, hne⟩ := st
    obtain ⟨hin, xs, x, hq, hxl, hx⟩ := hg
    obtain ⟨its, rv, ht, hz⟩ := I.tuple hq
    have hl := rv.length
    have hsz : its.toArray.size = n := by rw [List.size_toArray, ← hl, hxl]
    have hel : e < s.heap.objs.size := Heap.lt_size he
    have hil : it < s.heap.objs.size := by obtain ⟨_, q, _⟩ := hit; exact Heap.lt_size q
    obtain ⟨ot, hot, hct, n2, hdt⟩ := id ht
    have nte : a ≠ e := fun z => by
      rw [z] at hot
      have he2 : s.heap.get? e = some _ := he
      rw [he2] at hot
      cases hot
      have z2 : Value.type "enumerate" = Value.type "tuple" := hct
      injection z2 with z2
      exact absurd z2 (by decide)
    have nti : a ≠ it := fun z => by
      obtain ⟨o, ho, hc2, hd2⟩ := id hit
      rw [z, ho] at hot
      cases hot
      rw [hc2] at hct
      injection hct with z2
      exact absurd z2 (by decide)
    have hd : X.A.in1.handled = none := I.ok.hd hc
    have D := draws_rt (prog := X.prog) (w := X.w) hd nti (items := its.toArray) (by rw [List.size_toArray, ← hl]; exact hz)
    refine wpAny_pyNext_enum_itemD D he ⟨by rw [hsz]; exact hit, ht, by rw [hsz]; exact hi⟩ (by rw [hsz]; exact hin) hne (by simp only [List.mem_cons, List.not_mem_nil, or_false, not_or]; exact ⟨hne, Ne.symm nte⟩) fun u h' tk hPx ho hst hT hsz2 hk => ?_
    rw [hsz] at hPx hst
    obtain ⟨u', hu, ru⟩ := rv.get hx
    have hu2 : its.toArray[n - 1 - i]? = some u' := by simpa using hu
    rw [hu2] at hPx
    have e7 := Option.some.inj hPx
    subst e7
    refine ⟨_, rfl, wpAny_letOwnedTupleGo_enum (s := { s with heap := h', toks := tk + 1 }) ho fun h'' he' sb => ?_⟩
    have hT2 : h''.get? s.heap.objs.size = some { cls := .type "tuple", data := .seq #[.int i tk, u'] } := (sb.2 _ (Nat.ne_of_gt hel)).trans hT
    have new : ObjOk X.prog X.w (upd H s.heap.objs.size (.tup [.int (i : Nat), x])) h'' s.heap.objs.size (.tup [.int (i : Nat), x]) :=
      ⟨by show 2 ≤ sizeLine; decide, [.int i tk, u'], .cons ⟨_, rfl⟩ (.cons ru .nil), ⟨_, hT2, rfl, _, rfl⟩⟩
    have I1 : Inv X pins σ (upd H s.heap.objs.size (.tup [.int (i : Nat), x])) { s with heap := h'', toks := tk + 1 } :=
      I.turnedNew (ch := [e, it]) (fun b ob hb q => (sb.2 b (fun z => hb (by simp [z]))).trans (hk b ob (fun z => hb (by simp [z])) (fun z => hb (by simp [z])) q)) hf (Nat.le_refl _) new
    refine ⟨.ref s.heap.objs.size, _, I1, rfl, ⟨_, x, rfl, I.hok.fresh (Nat.le_refl _), rfl, fun ys hy => by rw [I.tuple_inj hy hq]; exact hx⟩, ⟨⟨u', ?_⟩, ⟨hin, hst.1.at fun o q => (sb.2 it (Ne.symm hne)).trans q⟩, hne⟩, fun b hb => ?_⟩
    · have e1 : ((i + 1 : Nat) : Int) = (i : Int) + 1 := by omega
      rw [e1]; exact he'
    · have hb' : b < s.heap.objs.size := by
        have e' : b = e ∨ b = it := by simpa using hb
        rcases e' with z | z
        · rw [z]; exact hel
        · rw [z]; exact hil
      rw [upd_ne (Nat.ne_of_lt hb')]
      exact (hf b hb).1
  done := by
    intro X hP hw hK hc i pins s σ H E I hf st hg
    subst hP hw hK
    obtain ⟨⟨old, he⟩, ⟨hi, hit⟩, hne⟩ := st
    obtain ⟨hge, xs, hq, hxl⟩ := hg
    have hie : i = n := by omega
    subst hie
    obtain ⟨its, rv, ht, hz⟩ := I.tuple hq
    have hl := rv.length
    have hsz : its.toArray.size = i := by rw [List.size_toArray, ← hl, hxl]
    obtain ⟨ot, hot, hct, n2, hdt⟩ := id ht
    have nti : a ≠ it := fun z => by
      obtain ⟨o, ho, hc2, hd2⟩ := id hit
      rw [z, ho] at hot
      cases hot
      rw [hc2] at hct
      injection hct with z2
      exact absurd z2 (by decide)
    obtain ⟨f0, f1, f2, f3, f4, f5⟩ := hf it (by simp)
    have hd : X.A.in1.handled = none := I.ok.hd hc
    have D := draws_rt (prog := X.prog) (w := X.w) hd nti (items := its.toArray) (by rw [List.size_toArray, ← hl]; exact hz)
    exact wpAny_pyNext_enum_endD D he (by rw [hsz]; exact ⟨hit, ht, Nat.le_refl _⟩) fun h' eb => ⟨rfl, I.turned (t' := s.toks) (fun b o hb q => eb b o hb q) f0 f1 f3 f4 f5⟩
  self := fun A i s Q E st h => let ⟨⟨_, he⟩, _⟩ := st; wpAny_pyIter_enum he h
section
variable {Z : Fx} {E : Ex} {X : Cx} {F M : List Addr} {S : Sto} {H : Hp} {W : XK} {σp : Sl} {σ : L2.St}
variable {a : Expr} {fa : Sl → Sto → Rs PV} {p q r pos : Pos}
def iEnr (K : PySem.W.Frag) (te : TE) : TI := fun σ H R => te σ H fun v H1 => ∃ (a : Addr) (xs : List V), v = .ref a ∧ SqT K H1 a xs ∧ R (ItE K a xs.length) H1
theorem pi_enr {es : List Expr} {k : Nat} {tp : Pos} {te : TE} (hg : Gl X "enumerate") (hm : X.mg "enumerate" = none) (hg2 : Gl X "reversed") (hm2 : X.mg "reversed" = none) (he : PE X a te) (hs : starEach [a] X.env = (false, eval a X.env) :: starEach [] X.env) :
    PI X (.Tuple es k tp) (.Call (.Name "enumerate" p) [.Call (.Name "reversed" q) [a] [] r] [] pos) (iEnr X.K te) := by
  refine ⟨fun pins s σ H R I h => ?_⟩
  refine Call_ (ld_blt I hg hm boot_enumerate (PyProof.Rows.callWith_type1 (args_cons ?_ rfl) rfl rfl))
  refine Call_ (ld_blt I hg2 hm2 PyProof.Rows.boot_reversed (PyProof.Rows.callWith_type1 (args_cons (thn (he.run pins s σ H _ I h) fun u s1 ⟨v, H1, I1, r1, q1⟩ => args_nil ?_) hs) hs rfl))
  obtain ⟨t, xs, ev, hq, q1⟩ := q1
  subst ev
  obtain rfl : u = Value.ref t := r1
  obtain ⟨its, rv, p', hz⟩ := I1.tuple hq
  have hl := rv.length
  have hn := line63
  have e1 : ((its.toArray.size : Nat) : Int) - 1 = (xs.length : Int) - 1 - ((0 : Nat) : Int) := by simp only [List.size_toArray]; omega
  refine RT.call_reversed_tup p' (fun A E Q k => len_tuple p' (by simp only [List.size_toArray] <;> omega) k) (args_nil ?_)
  have hrt : RT.IsRt (s1.heap.push (RT.rtObj t ((its.toArray.size : Int) - 1))) s1.heap.objs.size t ((its.toArray.size : Int) - 1) := ⟨_, Heap.get?_push_size _ rfl, rfl, rfl⟩
  refine call_enumerate_rt (s := { s1 with heap := s1.heap.push (RT.rtObj t ((its.toArray.size : Int) - 1)), toks := s1.toks + 1 + 1 }) hrt ?_
  have I2 : Inv X pins σ H1 { s1 with heap := s1.heap.push (RT.rtObj t ((its.toArray.size : Int) - 1)), toks := s1.toks + 1 + 1 } := I1.kept fun b o e => Heap.get?_push_of_some _ e
  have hz1 : (s1.heap.push (RT.rtObj t ((its.toArray.size : Int) - 1))).objs.size = s1.heap.objs.size + 1 := Heap.size_push ..
  have hen : IsEnum ((s1.heap.push (RT.rtObj t ((its.toArray.size : Int) - 1))).push { cls := .type "enumerate", data := .fields #[.none, .bool false, .ref s1.heap.objs.size, rawInt 0, .none, .none] }) (s1.heap.objs.size + 1) s1.heap.objs.size 0 .none := by
    have := Heap.get?_push_size (s1.heap.push (RT.rtObj t ((its.toArray.size : Int) - 1))) (o := { cls := .type "enumerate", data := .fields #[.none, .bool false, .ref s1.heap.objs.size, rawInt 0, .none, .none] }) rfl
    rw [hz1] at this
    exact this
  refine wpAny_pyIter_enum (i := 0) (it := s1.heap.objs.size) (old := .none) (by
    show IsEnum _ _ _ _ _
    rw [hz1]
    exact hen) ?_
  have I3 : Inv X pins σ H1 { s1 with heap := (s1.heap.push (RT.rtObj t ((its.toArray.size : Int) - 1))).push { cls := .type "enumerate", data := .fields #[.none, .bool false, .ref s1.heap.objs.size, rawInt 0, .none, .none] }, toks := s1.toks + 1 + 1 } := I2.kept fun b o e => Heap.get?_push_of_some _ e
  refine ⟨s1.heap.objs.size + 1, [s1.heap.objs.size + 1, s1.heap.objs.size], _, _, H1, by show Value.ref _ = _; rw [hz1], I3, turn_enr t (s1.heap.objs.size + 1) s1.heap.objs.size xs.length, ⟨⟨.none, hen⟩, ⟨Nat.zero_le _, ?_⟩, Nat.succ_ne_self _⟩, fun b hb => ?_, q1⟩
  · rw [← e1]
    exact hrt.at fun o e => Heap.get?_push_of_some _ e
  · have e' : b = s1.heap.objs.size + 1 ∨ b = s1.heap.objs.size := by simpa using hb
    have hle : s1.heap.objs.size ≤ b := by
      rcases e' with z | z
      · rw [z]; exact Nat.le_add_right _ _
      · rw [z]; exact Nat.le_refl _
    exact I1.fpOk hle (I1.hok.fresh hle)
theorem enum_get {l : List PV} {i : Nat} {p : PV} (h : (enum l.reverse)[i]? = some p) : ∃ x, l[l.length - 1 - i]? = some x ∧ p = .tup [.int i, x] ∧ i < l.length := by
  unfold enum at h
  rw [List.getElem?_map] at h
  obtain ⟨q, e1, e2⟩ := Option.map_eq_some_iff.mp h
  rw [List.getElem?_zipIdx] at e1
  obtain ⟨y, e3, e4⟩ := Option.map_eq_some_iff.mp e1
  have hi : i < l.reverse.length := (List.getElem?_eq_some_iff.mp e3).1
  rw [List.length_reverse] at hi
  rw [List.getElem?_reverse hi] at e3
  subst e4
  exact ⟨y, e3, by rw [← e2]; simp, hi⟩
theorem wk_enr {l : List PV} {xs : List V} {a : Addr} (r : Rel Z F M S H) (h1 : SqT Z.K H a xs) (h2 : RVs Z F M H l xs) : Wk Z F (enum l.reverse, none) M H (ItE Z.K a xs.length) := by
  have hle : (enum l.reverse).length = xs.length := by unfold enum; simp [h2.len]
  refine ⟨fun F' M1 S1 H1 i x r1 _ hi => ⟨by rw [← hle]; exact hi, xs, x.sqT r h1, rfl⟩, fun F' M1 S1 H1 i x r1 _ hi => ?_, fun F' M1 S1 H1 i p v H2 x r1 hF _ hp hy => ?_⟩
  · have hi2 : i < xs.length := by rw [← hle]; exact hi
    exact ⟨hi2, xs, xs[xs.length - 1 - i], x.sqT r h1, rfl, List.getElem?_eq_getElem (by omega)⟩
  · obtain ⟨T, y, e1, e2, e3, e4⟩ := hy
    obtain ⟨z, g1, g2, g3⟩ := enum_get (show (enum l.reverse)[i]? = some p from hp)
    obtain ⟨u, e5, q⟩ := h2.get g1
    rw [h2.len] at e5
    have e6 := e4 xs (x.sqT r h1)
    rw [e5] at e6
    have e7 := Option.some.inj e6
    subst e7
    obtain ⟨r2, x2⟩ := r1.fresh (o := .tup [.int (i : Nat), u]) e2
    subst e3 e1 g2
    exact ⟨x2, r2, .tup (.inl (.inl upd_same)) (.cons (.int _) (.one (RV.mono r1 x2 (RV.far r x hF q))))⟩
theorem n_enr {es : List Expr} {k : Nat} {tp : Pos} (hK : X.K = Z.K) (hg : Gl X "enumerate") (hm : X.mg "enumerate" = none) (hg2 : Gl X "reversed") (hm2 : X.mg "reversed" = none) (ha : PE X a (tE Z E X fa)) (hs : starEach [a] X.env = (false, eval a X.env) :: starEach [] X.env) :
    PI X (.Tuple es k tp) (.Call (.Name "enumerate" p) [.Call (.Name "reversed" q) [a] [] r] [] pos) (tI Z E X fun σ S => (fa σ S).bind fun v S1 => match v with
      | .tup l => .ok (enum l.reverse, none) S1
      | _ => .bad) := by
  refine piI (pi_enr hg hm hg2 hm2 ha hs) fun σ H Q ⟨F, M, S, σp, W, at_, p⟩ => ?_
  refine (at_.seq p).imp fun x H1 ⟨v, M1, S1, x1, a1, r1, p1⟩ => ?_
  rw [hK]
  cases v with
  | tup l =>
    cases r1 with
    | tup h1 h2 => exact ⟨_, _, rfl, h1, Post.val (R := RW Z F) p1 a1.r (wk_enr a1.r h1 h2)⟩
  | _ => exact p1.elim
end
end Ev

set_option Elab.async false
set_option linter.all false
set_option maxRecDepth 100000
/-! an expression of the small language checked against the program's: sound -/
namespace Ev
open PySem PySem.Spec PyProof.Rows L2
def ownL (N : List Str) (own : List Nat) : List (Str × Nat) := own.filterMap fun i => (N[i]?).map fun x => (x, i)
def keyB : List Str → List (Option Expr) → Bool
  | [], [] => true
  | k :: ks, some (.Constant (.str x) _ _) :: r => decide (k = x) && keyB ks r
  | _, _ => false
def tysB (sc : Scope) (bts : List Str) : List Ty → List Expr → Bool
  | [], [] => true
  | t :: ts, .Name x _ :: r => decide (x = Str.ofString (tyName t)) && glB sc x && decide (x ∈ bts) && tysB sc bts ts r
  | _, _ => false
def biName (b : Blt) : Option String := match biB b with
  | some n => some n
  | none => biT b
def noPar : Arguments → Bool
  | ⟨[], [], none, [], [], none, []⟩ => true
  | _ => false
section
variable (L : Lk) (w : Str) (N : List Str)
mutual
def chkE : IE → Bool → Scope → Expr → Bool
  | .never, _, _, _ => true
  | .var i, _, sc, e => match e with
    | .Name x _ => decide (N[i]? = some x) && visB sc x && okN x
    | _ => false
  | .cst v, _, _, e => cstB v e
  | .gl k, _, sc, e => match e with
    | .Name x _ => decide (L.gls[k]? = some x) && glB sc x && okN x
    | _ => false
  | .tup es, wf, sc, e => match e with
    | .Tuple xs _ _ => xs.all noStar && decide (xs.length ≤ 1000000) && chkEs es wf sc xs
    | _ => false
  | .lst _ es, wf, sc, e => match e with
    | .List xs _ => xs.all noStar && decide (xs.length ≤ 1000000) && chkEs es wf sc xs
    | _ => false
  | .dict ks es, wf, sc, e => match e with
    | .Dict keys xs _ => keyB ks keys && decide (ks ≠ []) && decide (ks.length ≤ 15) && decide (keys.length = xs.length) && chkEs es wf sc xs
    | _ => false
  | .bin op a b, wf, sc, e => match e with
    | .BinOp x o y _ => opB op o && chkE a wf sc x && chkE b wf sc y
    | _ => false
  | .not a, wf, sc, e => match e with
    | .UnaryOp .Not x _ => chkE a wf sc x
    | _ => false
  | .band a b, wf, sc, e => match e with
    | .BoolOp .And (x :: y :: r) p => chkE a wf sc x && chkE b wf sc (match r with | [] => y | _ :: _ => .BoolOp .And (y :: r) p)
    | _ => false
  | .bor a b, wf, sc, e => match e with
    | .BoolOp .Or (x :: y :: r) p => chkE a wf sc x && chkE b wf sc (match r with | [] => y | _ :: _ => .BoolOp .Or (y :: r) p)
    | _ => false
  | .ife c a b, wf, sc, e => match e with
    | .IfExp z x y _ => chkE c wf sc z && chkE a wf sc x && chkE b wf sc y
    | _ => false
  | .cmp op a b, wf, sc, e => match e with
    | .Compare x [o] [y] _ => copB op o && notSet y && chkE a wf sc x && chkE b wf sc y
    | _ => false
  | .chain o1 o2 a b c, wf, sc, e => match e with
    | .Compare x [p, q] [y, z] _ => copB o1 p && copB o2 q && notSet z && chkE a wf sc x && chkE b wf sc y && chkE c wf sc z
    | _ => false
  | .call f es, wf, sc, e => match L.fns[f]? with
    | some (nm, pn) => (match e with
      | .Call (.Name x _) (a :: as) [] _ => decide (x = nm) && okN x && glB sc x && (a :: as).all noStar && chkEs es wf sc (a :: as)
      | .Call (.Name x _) [] (k :: ks) _ => decide (x = nm) && decide (x ∈ L.kws) && okN x && glB sc x && decide ((k :: ks).map (fun | ⟨n, _, _⟩ => n) = pn.map some) && chkEs es wf sc ((k :: ks).map fun | ⟨_, v, _⟩ => v)
      | _ => false)
    | none => false
  | .bi b a, wf, sc, e => match e with
    | .Call (.Name x _) [y] [] _ => decide ((biName b).map Str.ofString = some x) && glB sc x && decide (x ∈ L.bts) && noStar y && chkE a wf sc y
    | _ => false
  | .bi2 b a c, wf, sc, e => match e with
    | .Call (.Name x _) [y, z] [] _ => decide ((biB2 b).map Str.ofString = some x) && glB sc x && decide (x ∈ L.bts) && noStar y && noStar z && chkE a wf sc y && chkE c wf sc z
    | _ => false
  | .isi a t, wf, sc, e => match e with
    | .Call (.Name x _) [y, .Name z _] [] _ => decide (x = "isinstance") && glB sc x && decide (x ∈ L.bts) && decide (z = Str.ofString (tyName t)) && glB sc z && decide (z ∈ L.bts) && noStar y && chkE a wf sc y
    | _ => false
  | .isis a ts, wf, sc, e => match e with
    | .Call (.Name x _) [y, .Tuple zs _ _] [] _ => decide (x = "isinstance") && glB sc x && decide (x ∈ L.bts) && tysB sc L.bts ts zs && decide (ts.length ≤ 100) && noStar y && chkE a wf sc y
    | _ => false
  | .idx a b, wf, sc, e => match e with
    | .Subscript x y _ => noSlice y && chkE a wf sc x && chkE b wf sc y
    | _ => false
  | .lof _ a, wf, sc, e => match e with
    | .Call (.Name x _) [y] [] _ => decide (x = "list") && glB sc x && decide (x ∈ L.bts) && noStar y && chkE a wf sc y
    | _ => false
  | .slc _ a lo hi, wf, sc, e => match e with
    | .Subscript x (.Slice l h none _) _ => chkE a wf sc x && chkO lo wf sc l && chkO hi wf sc h
    | _ => false
  | .meth k o es, wf, sc, e => match e with
    | .Call (.Attribute x m ap) as [] cp => decide (m = mtN k) && notSup x && (ap.endLine == cp.line) && decide (as.length < 29) && as.all noStar && chkE o wf sc x && chkEs es wf sc as
    | _ => false
  | .lc _ own tg src ifs elt, wf, sc, e => match e with
    | .ListComp x [⟨t, it, cs, k⟩] scope _ => decide (k = 0) && notSet it && blkC N sc scope (ownL N own) && decide ((ownL N own).map (·.2) = own) && (tgIs tg).all (fun i => decide (i ∈ own)) && tgB N (some scope) (relS scope sc) tg t && chkSrc src wf sc t it && chkIf ifs false (relS scope sc) cs && chkE elt false (relS scope sc) x
    | _ => false
  | .word a, wf, sc, e => match e with
    | .Call (.Name x _) [.Lambda ps b scope _] [] _ => wf && decide (x = w) && noPar ps && LamX.lamSB sc scope && glB sc x && chkE a false scope b
    | _ => false
def chkEs : IEs → Bool → Scope → List Expr → Bool
  | .nil, _, _, es => match es with
    | [] => true
    | _ :: _ => false
  | .cons a r, wf, sc, es => match es with
    | x :: xs => chkE a wf sc x && chkEs r wf sc xs
    | [] => false
def chkO : IO → Bool → Scope → Option Expr → Bool
  | .none, _, _, o => match o with
    | none => true
    | some _ => false
  | .some a, wf, sc, o => match o with
    | some x => chkE a wf sc x
    | none => false
def chkIf : IO → Bool → Scope → List Expr → Bool
  | .none, _, _, es => match es with
    | [] => true
    | _ :: _ => false
  | .some a, wf, sc, es => match es with
    | [x] => chkE a wf sc x
    | _ => false
def chkSrc : Src → Bool → Scope → Expr → Expr → Bool
  | .seq a, wf, sc, _, e => chkE a wf sc e
  | .rng a, wf, sc, _, e => match e with
    | .Call (.Name x _) [y] [] _ => decide (x = "range") && glB sc x && decide (x ∈ L.bts) && noStar y && chkE a wf sc y
    | _ => false
  | .rng2 a b, wf, sc, _, e => match e with
    | .Call (.Name x _) [y, z] [] _ => decide (x = "range") && glB sc x && decide (x ∈ L.bts) && noStar y && noStar z && chkE a wf sc y && chkE b wf sc z
    | _ => false
  | .enr a, wf, sc, t, e => match t, e with
    | .Tuple _ _ _, .Call (.Name x _) [.Call (.Name y _) [z] [] _] [] _ => decide (x = "enumerate") && glB sc x && decide (x ∈ L.bts) && decide (y = "reversed") && glB sc y && decide (y ∈ L.bts) && noStar z && chkE a wf sc z
    | _, _ => false
end
end
end Ev

set_option Elab.async false
set_option linter.all false
set_option maxRecDepth 100000
/-! the check of an expression is sound -/
namespace Ev
open PySem PySem.Spec PyProof.Rows L2
/-- a lambda's word -/
def WdRule (Z : Fx) (E : Ex) (C : Ctx) (w : Str) (n : Nat) (sc : Scope) (X : Cx) : Prop :=
  ∀ (f : Sl → Sto → Rs PV) (params : Arguments) (body : Expr) (scope : Scope) (p lpos pos : Pos), noPar params = true → LamX.lamSB sc scope = true → glB sc w = true →
    (∀ (A : Around) (outer : List Env) (s : Shared) (H : Hp) (E' : XK) (fa c' : Addr), A.guards = some [] → Room n (A.deeper (LamX.lamEnv X scope s.heap.objs.size fa c')) → PE (LamX.lamCx X A outer s H E' scope fa c') body (tE Z E (LamX.lamCx X A outer s H E' scope fa c') f)) →
    PE X (.Call (.Name w p) [.Lambda params body scope lpos] [] pos) (tE Z E X fun σ S => match f σ S with
      | .ok v S1 => .ok v S1
      | .ex c fs S1 => ofO (C.word c fs) S1
      | .bad => .bad)
structure Hx (L : Lk) (Z : Fx) (C : Ctx) (E : Ex) (w : Str) (n : Nat) (N : List Str) (wf : Bool) (sc : Scope) (X : Cx) : Prop where
  K : X.K = Z.K
  N : X.N = N
  nd : X.N.Nodup
  scp : X.env.scope = sc
  calm : X.calm = true
  gu : X.A.guards = some []
  room : Room n X.A
  fns : ∀ (i : Nat) (x : Str) (pn : List Str), L.fns[i]? = some (x, pn) → Def Z E X n (decide (x ∈ L.kws)) x pn (C.call i)
  gls : ∀ (i : Nat) (x : Str), L.gls[i]? = some x → ∃ p v u, C.gls[i]? = some p ∧ X.mg x = some u ∧ RelV v u ∧ ∀ F M H, RV Z F M H p v
  bts : ∀ x ∈ L.bts, X.mg x = none
  wd : wf = true → WdRule Z E C w n sc X
section
variable {L : Lk} {Z : Fx} {C : Ctx} {E : Ex} {w : Str} {n : Nat} {N : List Str} {wf : Bool} {sc : Scope} {X : Cx}
theorem Hx.gl (hx : Hx L Z C E w n N wf sc X) {x : Str} (h : glB sc x = true) : Gl X x := by
  have h2 := of_decide_eq_true h
  show X.env.scope.names.lookup x = _
  rw [hx.scp]
  exact h2
theorem Hx.u (hx : Hx L Z C E w n N wf sc X) : X.A.units + 200 < cLine := by
  have := hx.room.un
  omega
theorem Hx.blk (hx : Hx L Z C E w n N wf sc X) {s : Shared} {H : Hp} {scope : Scope} {cl : List (Str × Addr)} {D : Addr} {fp : List Addr} : Hx L Z C E w n N false (relS scope sc) (X.blk s H scope (compEnvC scope cl D X.env) fp) :=
  ⟨hx.K, hx.N, hx.nd, by rw [← hx.scp] <;> rfl, hx.calm, hx.gu, hx.room, fun i x pn h => ⟨(hx.fns i x pn h).ex⟩, hx.gls, hx.bts, fun h => by cases h⟩
theorem Hx.lam (hx : Hx L Z C E w n N wf sc X) {A : Around} {outer : List Env} {s : Shared} {H : Hp} {W : XK} {scope : Scope} {fa c' : Addr} (hg : A.guards = some []) (hr : Room n (A.deeper (LamX.lamEnv X scope s.heap.objs.size fa c'))) :
    Hx L Z C E w n N false scope (LamX.lamCx X A outer s H W scope fa c') :=
  ⟨hx.K, hx.N, hx.nd, rfl, rfl, hg, hr, fun i x pn h => ⟨(hx.fns i x pn h).ex⟩, hx.gls, hx.bts, fun h => by cases h⟩
inductive EsOk (Z : Fx) (E : Ex) (C : Ctx) (X : Cx) : IEs → List Expr → Prop
  | nil : EsOk Z E C X .nil []
  | cons {e : IE} {es : IEs} {x : Expr} {xs : List Expr} : PE X x (tE Z E X (evE C e)) → EsOk Z E C X es xs → EsOk Z E C X (.cons e es) (x :: xs)
theorem EsOk.pa : ∀ {es : IEs} {xs : List Expr}, EsOk Z E C X es xs → xs.all noStar = true → PA X xs (tA Z E X (evEs C es))
  | _, _, .nil, _ => n_nil
  | _, x :: xs, .cons h1 h2, hs => by
    have hs2 : noStar x = true ∧ xs.all noStar = true := by simpa using hs
    exact n_cons h1 (h2.pa hs2.2) (star_ok hs2.1)
theorem EsOk.pk : ∀ {es : IEs} {xs : List Expr} {kws : List Keyword}, EsOk Z E C X es xs → (kws.map fun | ⟨_, v, _⟩ => v) = xs → PK X kws (tA Z E X (evEs C es))
  | _, _, [], .nil, _ => n_knil
  | _, _, _ :: _, .nil, e => by simp at e
  | _, _, [], .cons _ _, e => by simp at e
  | _, x :: xs, ⟨_, v, _⟩ :: ks, .cons h1 h2, e => by
    have e2 : v = x ∧ (ks.map fun | ⟨_, v, _⟩ => v) = xs := List.cons.inj e
    rw [← e2.1] at h1
    exact n_kcons h1 (h2.pk e2.2)
theorem EsOk.pd : ∀ {es : IEs} {xs : List Expr} {ks : List Str} {keys : List (Option Expr)} {pos : Pos}, EsOk Z E C X es xs → keyB ks keys = true → keys.length = xs.length → PD Z E X pos ks keys xs (evEs C es)
  | _, _, [], [], _, .nil, _, _ => pd_nil
  | _, _, _ :: _, [], _, .nil, h, _ => by simp [keyB] at h
  | _, _, _, _ :: _, _, .nil, _, h => by simp at h
  | _, _, _, [], _, .cons _ _, _, h => by simp at h
  | _, _, [], _ :: _, _, .cons _ _, h, _ => by simp [keyB] at h
  | _, _, k :: ks, key :: keys, _, .cons h1 h2, h, hl => by
    unfold keyB at h
    split at h
    · rename_i e
      simp at e
    · rename_i e1 e2
      cases e1
      cases e2
      rw [Bool.and_eq_true] at h
      rw [of_decide_eq_true h.1]
      exact pd_cons h1 (h2.pd h.2 (by simpa using hl))
    · cases h
theorem EsOk.len : ∀ {es : IEs} {xs : List Expr}, EsOk Z E C X es xs → ∀ σ S vs S', evEs C es σ S = .ok vs S' → vs.length = xs.length
  | _, _, .nil, _, _, _, _, h => by
    cases h
    rfl
  | _, _, .cons (e := e) (es := es) h1 h2, σ, S, vs, S', h => by
    have h3 : ((evE C e σ S).bind fun v S1 => (evEs C es σ S1).bind fun vs S2 => .ok (v :: vs) S2) = .ok vs S' := h
    cases he : evE C e σ S with
    | bad => rw [he] at h3; cases h3
    | ex _ _ _ => rw [he] at h3; cases h3
    | ok v S1 =>
      rw [he] at h3
      have h4 : ((evEs C es σ S1).bind fun vs S2 => Rs.ok (v :: vs) S2) = .ok vs S' := h3
      cases hr : evEs C es σ S1 with
      | bad => rw [hr] at h4; cases h4
      | ex _ _ _ => rw [hr] at h4; cases h4
      | ok ws S2 =>
        rw [hr] at h4
        have h5 : Rs.ok (v :: ws) S2 = .ok vs S' := h4
        cases h5
        simp [h2.len σ S1 ws _ hr]
theorem keyB_ok : ∀ {ks : List Str} {keys : List (Option Expr)}, keyB ks keys = true → keys.all (·.isSome) = true ∧ ks.length = keys.length
  | [], [], _ => ⟨rfl, rfl⟩
  | [], _ :: _, h => by simp [keyB] at h
  | _ :: _, [], h => by simp [keyB] at h
  | k :: ks, key :: keys, h => by
    unfold keyB at h
    split at h
    · rename_i e
      simp at e
    · rename_i e1 e2
      cases e1
      cases e2
      rw [Bool.and_eq_true] at h
      obtain ⟨g1, g2⟩ := keyB_ok h.2
      exact ⟨by simp [g1], by simp [g2]⟩
    · cases h
theorem tysB_ok (hx : Hx L Z C E w n N wf sc X) : ∀ {ts : List Ty} {zs : List Expr}, tysB sc L.bts ts zs = true → ∃ ps : List Pos, ts.length = ps.length ∧ zs = (ts.zip ps).map (fun q => Expr.Name (Str.ofString (tyName q.1)) q.2) ∧ ∀ t ∈ ts, Gl X (Str.ofString (tyName t)) ∧ X.mg (Str.ofString (tyName t)) = none
  | [], [], _ => ⟨[], rfl, rfl, fun t ht => by cases ht⟩
  | [], _ :: _, h => by simp [tysB] at h
  | _ :: _, [], h => by simp [tysB] at h
  | t :: ts, z :: zs, h => by
    unfold tysB at h
    split at h
    · rename_i e
      simp at e
    · rename_i x q r e1 e2
      cases e1
      cases e2
      simp only [Bool.and_eq_true, decide_eq_true_eq] at h
      obtain ⟨⟨⟨h1, h2⟩, h3⟩, h4⟩ := h
      obtain ⟨ps, g1, g2, g3⟩ := tysB_ok hx h4
      refine ⟨q :: ps, by simp [g1], by rw [h1, g2] <;> rfl, fun t' ht => ?_⟩
      rcases List.mem_cons.mp ht with e | ht
      · rw [e, ← h1]
        exact ⟨hx.gl h2, hx.bts _ h3⟩
      · exact g3 t' ht
    · cases h
theorem lookDbg {x : Str} (h : okN x = true) : (x == ("__debug__" : Str)) = false ∧ (x == ("__classdict__" : Str)) = false := by
  unfold okN at h
  simpa using h

def Snd (Z : Fx) (E : Ex) (X : Cx) (e : Expr) (f : Sl → Sto → Rs PV) : Prop := PE X e (tE Z E X f) ∧ PT X e (tT Z E X fun σ S => asB (f σ S))
theorem snd_plain {e : Expr} {f : Sl → Sto → Rs PV} (h : PE X e (tE Z E X f)) (hp : plainT e = true) : Snd Z E X e f := ⟨h, pt_of h (plainT_ok hp)⟩
theorem never_ok {α β : Type} {R : List Addr → List Addr → Hp → α → β → Prop} {σ : L2.St} {H : Hp} {Q : β → Hp → Prop} (h : tG Z E X R (fun _ _ => (.bad : Rs α)) σ H Q) : False := let ⟨_, _, _, _, _, _, p⟩ := h; p
theorem biN_ok (hx : Hx L Z C E w n N wf sc X) {b : Blt} {x : Str} {y : Expr} {f : Sl → Sto → Rs PV} {p pos : Pos} (h1 : (biName b).map Str.ofString = some x) (h2 : glB sc x = true) (h3 : x ∈ L.bts) (h4 : noStar y = true) (ha : PE X y (tE Z E X f)) :
    PE X (.Call (.Name x p) [y] [] pos) (tE Z E X fun σ S => (f σ S).bind fun x S1 => ofO (biV S1 b x) S1) := by
  obtain ⟨n0, e1, e2⟩ := Option.map_eq_some_iff.mp h1
  subst e2
  unfold biName at e1
  cases e : biB b with
  | some m =>
    rw [e] at e1
    cases e1
    exact n_biB hx.K hx.u hx.gu hx.calm e (hx.gl h2) (hx.bts _ h3) ha (star_ok h4)
  | none =>
    rw [e] at e1
    exact n_biT hx.K e1 (hx.gl h2) (hx.bts _ h3) ha (star_ok h4)
theorem few_ok {env : Env} {pos : Pos} {b : Expr} {es : List Expr} (h : (b :: es).all noStar = true) (hl : (b :: es).length < 29) :
    ((backTo pos (starEach (b :: es) env)).all (fun x => !x.1) && (backToKw pos (keywordEach [] env)).all (fun x => x.1.isSome)
      && decide ((b :: es).length + ([] : List Keyword).length + (if ([] : List Keyword).isEmpty then 0 else 1) < 30)) = true := by
  rw [plain_all h, Bool.true_and, Bool.and_eq_true]
  exact ⟨rfl, decide_eq_true (by simp only [List.length_nil, List.isEmpty_nil, if_true] at hl ⊢; omega)⟩
theorem kw_names {env : Env} {pos : Pos} : ∀ {kws : List Keyword} {pn : List Str}, (kws.map fun | ⟨n, _, _⟩ => n) = pn.map some →
    (backToKw pos (keywordEach kws env)).all (·.1.isSome) = true ∧ (backToKw pos (keywordEach kws env)).filterMap (·.1) = pn ∧ (backToKw pos (keywordEach kws env)).any (·.1.isNone) = false
  | [], [], _ => ⟨rfl, rfl, rfl⟩
  | [], _ :: _, h => by simp at h
  | ⟨_, _, _⟩ :: _, [], h => by simp at h
  | ⟨n, v, q⟩ :: ks, x :: pn, h => by
    have h2 : n = some x ∧ (ks.map fun | ⟨n, _, _⟩ => n) = pn.map some := by simpa using h
    obtain ⟨g1, g2, g3⟩ := kw_names (env := env) (pos := pos) h2.2
    rw [h2.1]
    refine ⟨?_, ?_, ?_⟩
    · show (true && (backToKw pos (keywordEach ks env)).all (·.1.isSome)) = true
      rw [g1] <;> rfl
    · show ((some x, _) :: backToKw pos (keywordEach ks env)).filterMap (·.1) = x :: pn
      rw [List.filterMap_cons, g2]
    · show (false || (backToKw pos (keywordEach ks env)).any (·.1.isNone)) = false
      rw [g3] <;> rfl
/-- the parts of a comprehension -/
structure LcOk (Z : Fx) (E : Ex) (X : Cx) (own : List (Str × Nat)) (scope : Scope) (tg : Tg) (t it : Expr) (cs : List Expr) (x : Expr) (src : Sl → Sto → Rs Walk) (test : Sl → Sto → Rs Bool) (elt : Sl → Sto → Rs PV) : Prop where
  hi : PI X t it (tI Z E X src)
  ok : BlkOk X.N X.env.scope scope own
  hg : ∀ (s : Shared) (H : Hp) (D : Addr) (cl : List (Str × Addr)) (fp : List Addr), PG (X.blk s H scope (compEnvC scope cl D X.env) fp) t (gT X.K tg)
  ht : ∀ (s : Shared) (H : Hp) (D : Addr) (cl : List (Str × Addr)) (fp : List Addr), PTs (X.blk s H scope (compEnvC scope cl D X.env) fp) cs (tOk Z (fun _ => Rb) test)
  he : ∀ (s : Shared) (H : Hp) (D : Addr) (cl : List (Str × Addr)) (fp : List Addr), PE (X.blk s H scope (compEnvC scope cl D X.env) fp) x (tOk Z (R1 Z) elt)
  hs : ∀ y, foldedSetIterable it X.env y = pure y
theorem ptsI {es : List Expr} {t t' : TT} (h : PTs X es t) (k : ∀ σ H Q, t' σ H Q → t σ H Q) : PTs X es t' := ⟨fun pins s σ H Q I q => h.run pins s σ H Q I (k σ H Q q)⟩
theorem LcOk.pe {own : List (Str × Nat)} {o : List Nat} {m : Bool} {scope : Scope} {tg : Tg} {t it : Expr} {cs : List Expr} {x : Expr} {src : Sl → Sto → Rs Walk} {test : Sl → Sto → Rs Bool} {elt : Sl → Sto → Rs PV} {pos : Pos} (h : LcOk Z E X own scope tg t it cs x src test elt)
    (hK : X.K = Z.K) (hc : X.calm = true) (nd : X.N.Nodup) (ho : own.map (·.2) = o) (hi : ∀ i ∈ tgIs tg, i ∈ o) :
    PE X (.ListComp x [⟨t, it, cs, 0⟩] scope pos) (tE Z E X fun σ S => (src σ S).bind fun w S1 => (lcGo (fun S' => stays S' w) elt test tg (wipeP σ o) w.1 S1 []).bind fun vs S2 => newL m vs S2) :=
  peI (pe_lc hc nd h.hi h.ok h.hg h.ht h.he h.hs) fun σ H Q q => by
    rw [ho]
    exact lc_conv hK hi q
mutual
theorem sE : ∀ (ir : IE) {wf : Bool} {sc : Scope} {X : Cx} {e : Expr}, Hx L Z C E w n N wf sc X → chkE L w N ir wf sc e = true → Snd Z E X e (evE C ir)
  | .never, wf, sc, X, e, hx, h => ⟨⟨fun _ _ _ _ _ _ q => (never_ok q).elim⟩, ⟨fun _ _ _ _ _ _ q => (never_ok q).elim⟩⟩
  | .var i, wf, sc, X, e, hx, h => by
    unfold chkE at h
    split at h
    · simp only [Bool.and_eq_true, decide_eq_true_eq] at h
      obtain ⟨d1, d2⟩ := lookDbg h.2
      exact snd_plain (n_var (by rw [hx.N]; exact h.1.1) (by rw [hx.scp]; exact visB_ok h.1.2) d1 d2) rfl
    · cases h
  | .cst v, wf, sc, X, e, hx, h => by
    obtain ⟨h1, u, h2, h3⟩ := cst_ok (X := X) (Z := Z) h
    exact snd_plain (n_cst h2 h3) h1
  | .gl k, wf, sc, X, e, hx, h => by
    unfold chkE at h
    split at h
    · rename_i x pos
      simp only [Bool.and_eq_true, decide_eq_true_eq] at h
      obtain ⟨d1, d2⟩ := lookDbg h.2
      obtain ⟨p, v, u, g1, g2, g3, g4⟩ := hx.gls k _ h.1.1
      have hp : PE X (.Name x pos) (tE Z E X fun _ S => .ok p S) := n_cst (pe_glob (hx.gl h.1.2) g2 g3 d1) g4
      refine snd_plain (peI hp fun σ H Q q => ?_) rfl
      obtain ⟨F, M, S, σp, W, a, q⟩ := q
      refine ⟨F, M, S, σp, W, a, ?_⟩
      have q2 : Post Z E F (R1 Z F) M H (ofO C.gls[k]? S) Q W := q
      rw [g1] at q2
      exact q2
    · cases h
  | .tup es, wf, sc, X, e, hx, h => by
    unfold chkE at h
    split at h
    · simp only [Bool.and_eq_true, decide_eq_true_eq] at h
      have k := sEs es hx h.2
      exact snd_plain (n_tup (k.pa h.1.1) h.1.2 k.len) rfl
    · cases h
  | .lst m es, wf, sc, X, e, hx, h => by
    unfold chkE at h
    split at h
    · simp only [Bool.and_eq_true, decide_eq_true_eq] at h
      have k := sEs es hx h.2
      exact snd_plain (n_lst (k.pa h.1.1) h.1.2 k.len) rfl
    · cases h
  | .dict ks es, wf, sc, X, e, hx, h => by
    unfold chkE at h
    split at h
    · simp only [Bool.and_eq_true, decide_eq_true_eq] at h
      have k := sEs es hx h.2
      obtain ⟨g1, g2⟩ := keyB_ok h.1.1.1.1
      refine snd_plain (n_dict (k.pd h.1.1.1.1 h.1.2) g1 h.1.2 (fun e => ?_) (by rw [← g2]; exact h.1.1.2)) rfl
      rw [e] at g2
      exact h.1.1.1.2 (List.length_eq_zero_iff.mp g2)
    · cases h
  | .bin op a b, wf, sc, X, e, hx, h => by
    unfold chkE at h
    split at h
    · simp only [Bool.and_eq_true] at h
      rw [opB_ok h.1.1]
      exact snd_plain (n_bin hx.K (sE a hx h.1.2).1 (sE b hx h.2).1) rfl
    · cases h
  | .not a, wf, sc, X, e, hx, h => by
    unfold chkE at h
    split at h
    · have k := sE a hx h
      exact ⟨n_not k.1, n_notT k.2⟩
    · cases h
  | .band a b, wf, sc, X, e, hx, h => by
    unfold chkE at h
    split at h
    · rename_i x y r p
      simp only [Bool.and_eq_true] at h
      have k1 := sE a hx h.1
      have k2 : Snd Z E X (.BoolOp .And (y :: r) p) (evE C b) := by
        cases r with
        | nil =>
          have k := sE b hx h.2
          exact ⟨pe_one k.1, (pw_and1 k.2).pt⟩
        | cons z r => exact sE b hx h.2
      exact ⟨n_and k1.1 k2.1, n_andT k1.2 k2.2⟩
    · cases h
  | .bor a b, wf, sc, X, e, hx, h => by
    unfold chkE at h
    split at h
    · rename_i x y r p
      simp only [Bool.and_eq_true] at h
      have k1 := sE a hx h.1
      have k2 : Snd Z E X (.BoolOp .Or (y :: r) p) (evE C b) := by
        cases r with
        | nil =>
          have k := sE b hx h.2
          exact ⟨pe_one k.1, (pw_or1 k.2).pt⟩
        | cons z r => exact sE b hx h.2
      exact ⟨n_or k1.1 k2.1, n_orT k1.2 k2.2⟩
    · cases h
  | .ife c a b, wf, sc, X, e, hx, h => by
    unfold chkE at h
    split at h
    · simp only [Bool.and_eq_true] at h
      have k1 := sE c hx h.1.1
      have k2 := sE a hx h.1.2
      have k3 := sE b hx h.2
      exact ⟨n_ife k1.2 k2.1 k3.1, n_ifeT k1.2 k2.2 k3.2⟩
    · cases h
  | .cmp op a b, wf, sc, X, e, hx, h => by
    unfold chkE at h
    split at h
    · simp only [Bool.and_eq_true] at h
      rw [copB_ok h.1.1.1]
      have k1 := sE a hx h.1.2
      have k2 := sE b hx h.2
      exact ⟨n_cmp hx.K hx.u k1.1 k2.1 ((set_ok (env := X.env) h.1.1.2).2 _), n_cmpT hx.K hx.u k1.1 k2.1 ((set_ok (env := X.env) h.1.1.2).2 _)⟩
    · cases h
  | .chain o1 o2 a b c, wf, sc, X, e, hx, h => by
    unfold chkE at h
    split at h
    · simp only [Bool.and_eq_true] at h
      rw [copB_ok h.1.1.1.1.1, copB_ok h.1.1.1.1.2]
      have k1 := sE a hx h.1.1.2
      have k2 := sE b hx h.1.2
      have k3 := sE c hx h.2
      have hm : ∀ (o1 o2 : CmpOp) (y z : Expr), behindInMarks o2 z = false → lastMarks [o1, o2] [y, z] = false := fun _ _ _ _ h => h
      have hb := (set_ok (env := X.env) h.1.1.1.2).2
      exact ⟨n_chain hx.K hx.u k1.1 k2.1 k3.1 (hm _ _ _ _ (hb _)), n_chainT hx.K hx.u k1.1 k2.1 k3.1 (hm _ _ _ _ (hb _))⟩
    · cases h
  | .call f es, wf, sc, X, e, hx, h => by
    unfold chkE at h
    split at h
    · rename_i nm pn hf
      have D := hx.fns f nm pn hf
      split at h
      · rename_i x _ a as _
        simp only [Bool.and_eq_true, decide_eq_true_eq] at h
        obtain ⟨⟨⟨⟨h1, h2⟩, h3⟩, h4⟩, h5⟩ := h
        subst h1
        have k := sEs es hx h5
        have h4' : noStar a = true ∧ as.all noStar = true := by simpa using h4
        exact snd_plain (n_call hx.K hx.gu hx.room D (hx.gl h3) (lookDbg h2).1 (k.pa h4) (star_ok h4'.1) (plain_any h4'.2)) rfl
      · simp only [Bool.and_eq_true, decide_eq_true_eq] at h
        obtain ⟨⟨⟨⟨⟨h1, h0⟩, h2⟩, h3⟩, h4⟩, h5⟩ := h
        subst h1
        have k := sEs es hx h5
        rw [decide_eq_true h0] at D
        obtain ⟨g1, g2, g3⟩ := kw_names (env := X.env) h4
        exact snd_plain (n_callK hx.K hx.gu hx.room D (hx.gl h3) (lookDbg h2).1 (k.pk rfl) g1 g2 (by rw [g3] <;> rfl)) rfl
      · cases h
    · cases h
  | .bi b a, wf, sc, X, e, hx, h => by
    unfold chkE at h
    split at h
    · simp only [Bool.and_eq_true, decide_eq_true_eq] at h
      exact snd_plain (biN_ok hx h.1.1.1.1 h.1.1.1.2 h.1.1.2 h.1.2 (sE a hx h.2).1) rfl
    · cases h
  | .bi2 b a c, wf, sc, X, e, hx, h => by
    unfold chkE at h
    split at h
    · simp only [Bool.and_eq_true, decide_eq_true_eq] at h
      obtain ⟨⟨⟨⟨⟨⟨h1, h2⟩, h3⟩, h4⟩, h5⟩, h6⟩, h7⟩ := h
      obtain ⟨n0, e1, e2⟩ := Option.map_eq_some_iff.mp h1
      subst e2
      exact snd_plain (n_bi2 hx.calm e1 (hx.gl h2) (hx.bts _ h3) (sE a hx h6).1 (sE c hx h7).1 (star_ok h4) (star_ok h5)) rfl
    · cases h
  | .isi a t, wf, sc, X, e, hx, h => by
    unfold chkE at h
    split at h
    · simp only [Bool.and_eq_true, decide_eq_true_eq] at h
      obtain ⟨⟨⟨⟨⟨⟨⟨h1, h2⟩, h3⟩, h4⟩, h5⟩, h6⟩, h7⟩, h8⟩ := h
      subst h1 h4
      exact snd_plain (n_isi hx.K (hx.gl h2) (hx.bts _ h3) (hx.gl h5) (hx.bts _ h6) (sE a hx h8).1 (fun _ => star_ok h7)) rfl
    · cases h
  | .isis a ts, wf, sc, X, e, hx, h => by
    unfold chkE at h
    split at h
    · simp only [Bool.and_eq_true, decide_eq_true_eq] at h
      obtain ⟨⟨⟨⟨⟨⟨h1, h2⟩, h3⟩, h4⟩, h5⟩, h6⟩, h7⟩ := h
      obtain ⟨ps, g1, g2, g3⟩ := tysB_ok hx h4
      subst h1 g2
      exact snd_plain (n_isis hx.K g1 h5 (hx.gl h2) (hx.bts _ h3) g3 (sE a hx h7).1 (fun _ => star_ok h6)) rfl
    · cases h
  | .idx a b, wf, sc, X, e, hx, h => by
    unfold chkE at h
    split at h
    · simp only [Bool.and_eq_true] at h
      have hu := hx.u
      exact snd_plain (n_idx hx.K (by omega) (sE a hx h.1.2).1 (sE b hx h.2).1 (slice_ok h.1.1)) rfl
    · cases h
  | .lof m a, wf, sc, X, e, hx, h => by
    unfold chkE at h
    split at h
    · simp only [Bool.and_eq_true, decide_eq_true_eq] at h
      obtain ⟨⟨⟨⟨h1, h2⟩, h3⟩, h4⟩, h5⟩ := h
      subst h1
      exact snd_plain (n_lof hx.K (hx.gl h2) (hx.bts _ h3) (sE a hx h5).1 (star_ok h4)) rfl
    · cases h
  | .slc m a lo hi, wf, sc, X, e, hx, h => by
    unfold chkE at h
    split at h
    · simp only [Bool.and_eq_true] at h
      exact snd_plain (n_slc hx.K (sE a hx h.1.1).1 (sO lo hx h.1.2) (sO hi hx h.2)) rfl
    · cases h
  | .meth k o es, wf, sc, X, e, hx, h => by
    unfold chkE at h
    split at h
    · rename_i x m ap as cp
      simp only [Bool.and_eq_true, decide_eq_true_eq] at h
      obtain ⟨⟨⟨⟨⟨⟨h1, h2⟩, h3⟩, h4⟩, h5⟩, h6⟩, h7⟩ := h
      subst h1
      have k1 := sE o hx h6
      have k2 := sEs es hx h7
      cases as with
      | nil =>
        cases es with
        | nil => exact snd_plain (n_meth0 hx.K k1.1 (sup_ok h2) h3) rfl
        | cons _ _ => cases k2
      | cons b bs =>
        have h5' : noStar b = true ∧ bs.all noStar = true := by simpa using h5
        exact snd_plain (n_meth hx.K k1.1 (k2.pa h5) (sup_ok h2) (few_ok h5 h4) h3 (star_ok h5'.1) (plain_any h5'.2)) rfl
    · cases h
  | .lc m own tg src ifs elt, wf, sc, X, e, hx, h => by
    unfold chkE at h
    split at h
    · rename_i x t it cs k scope p
      simp only [Bool.and_eq_true, decide_eq_true_eq, List.all_eq_true] at h
      obtain ⟨⟨⟨⟨⟨⟨⟨⟨h1, h2⟩, h3⟩, h4⟩, h5⟩, h6⟩, h7⟩, h8⟩, h9⟩ := h
      subst h1
      have lo : LcOk Z E X (ownL N own) scope tg t it cs x (evSrc C src) (evIf C ifs) (evE C elt) := ⟨sSrc src hx h7, by rw [hx.N, hx.scp]; exact blkOk_by h3,
        fun s H D cl fp => tgB_ok (X := X.blk s H scope (compEnvC scope cl D X.env) fp) (inner := some scope) hx.blk.N hx.blk.nd hx.blk.scp (fun x hx' => by
          have := of_decide_eq_true hx'
          show (scope.names.lookup x == some .cell) = true
          rw [this] <;> rfl) hx.calm h6,
        fun s H D cl fp => ptsI (sIf ifs (hx.blk (s := s) (H := H) (scope := scope) (cl := cl) (D := D) (fp := fp)) h8) fun σ H Q q => q.to,
        fun s H D cl fp => peI (sE elt (hx.blk (s := s) (H := H) (scope := scope) (cl := cl) (D := D) (fp := fp)) h9).1 fun σ H Q q => q.to, (set_ok h2).1⟩
      exact snd_plain (lo.pe hx.K hx.calm hx.nd h4 h5) rfl
    · cases h
  | .word a, wf, sc, X, e, hx, h => by
    unfold chkE at h
    split at h
    · simp only [Bool.and_eq_true, decide_eq_true_eq] at h
      obtain ⟨⟨⟨⟨⟨h1, h2⟩, h3⟩, h4⟩, h5⟩, h6⟩ := h
      rw [h2] at h5 ⊢
      exact snd_plain (hx.wd h1 (evE C a) _ _ _ _ _ _ h3 h4 h5 fun A outer s H E' fa c' hg hr => (sE a (hx.lam hg hr) h6).1) rfl
    · cases h
theorem sEs : ∀ (es : IEs) {wf : Bool} {sc : Scope} {X : Cx} {xs : List Expr}, Hx L Z C E w n N wf sc X → chkEs L w N es wf sc xs = true → EsOk Z E C X es xs
  | .nil, wf, sc, X, xs, hx, h => by
    unfold chkEs at h
    split at h
    · exact .nil
    · cases h
  | .cons a r, wf, sc, X, xs, hx, h => by
    unfold chkEs at h
    split at h
    · rw [Bool.and_eq_true] at h
      exact .cons (sE a hx h.1).1 (sEs r hx h.2)
    · cases h
theorem sO : ∀ (o : IO) {wf : Bool} {sc : Scope} {X : Cx} {oe : Option Expr}, Hx L Z C E w n N wf sc X → chkO L w N o wf sc oe = true → PO X oe (tG Z E X (fun _ => Rb) (evO C o))
  | .none, wf, sc, X, xs, hx, h => by
    unfold chkO at h
    split at h
    · exact n_po0
    · cases h
  | .some a, wf, sc, X, xs, hx, h => by
    unfold chkO at h
    split at h
    · exact n_po1 (sE a hx h).1
    · cases h
theorem sIf : ∀ (o : IO) {wf : Bool} {sc : Scope} {X : Cx} {es : List Expr}, Hx L Z C E w n N wf sc X → chkIf L w N o wf sc es = true → PTs X es (tT Z E X (evIf C o))
  | .none, wf, sc, X, xs, hx, h => by
    unfold chkIf at h
    split at h
    · exact ptsI pts_nil fun σ H Q ⟨F, M, S, σp, W, a, p⟩ => Post.val (R := Rb) p a.r rfl
    · cases h
  | .some a, wf, sc, X, xs, hx, h => by
    unfold chkIf at h
    split at h
    · exact pts_one (sE a hx h).2
    · cases h
theorem sSrc : ∀ (s : Src) {wf : Bool} {sc : Scope} {X : Cx} {t e : Expr}, Hx L Z C E w n N wf sc X → chkSrc L w N s wf sc t e = true → PI X t e (tI Z E X (evSrc C s))
  | .seq a, wf, sc, X, t, e, hx, h => by
    unfold chkSrc at h
    have k := sE a hx h
    exact n_seq hx.K k.1
  | .rng a, wf, sc, X, t, e, hx, h => by
    unfold chkSrc at h
    split at h
    · simp only [Bool.and_eq_true, decide_eq_true_eq] at h
      obtain ⟨⟨⟨⟨h1, h2⟩, h3⟩, h4⟩, h5⟩ := h
      subst h1
      exact n_rng (hx.gl h2) (hx.bts _ h3) (sE a hx h5).1 (star_ok h4)
    · cases h
  | .rng2 a b, wf, sc, X, t, e, hx, h => by
    unfold chkSrc at h
    split at h
    · simp only [Bool.and_eq_true, decide_eq_true_eq] at h
      obtain ⟨⟨⟨⟨⟨⟨h1, h2⟩, h3⟩, h4⟩, h5⟩, h6⟩, h7⟩ := h
      subst h1
      exact n_rng2 (hx.gl h2) (hx.bts _ h3) (sE a hx h6).1 (sE b hx h7).1 (star_ok h4) (star_ok h5)
    · cases h
  | .enr a, wf, sc, X, t, e, hx, h => by
    unfold chkSrc at h
    split at h
    · simp only [Bool.and_eq_true, decide_eq_true_eq] at h
      obtain ⟨⟨⟨⟨⟨⟨⟨h1, h2⟩, h3⟩, h4⟩, h5⟩, h6⟩, h7⟩, h8⟩ := h
      subst h1 h4
      exact n_enr hx.K (hx.gl h2) (hx.bts _ h3) (hx.gl h5) (hx.bts _ h6) (sE a hx h8).1 (star_ok h7)
    · cases h
end
end
end Ev

set_option Elab.async false
set_option linter.all false
set_option maxRecDepth 100000
/-! statements: one node each, the check, its soundness -/
namespace Ev
open PySem PySem.Spec PyProof.Rows L2
abbrev tS (Z : Fx) (E : Ex) (X : Cx) (f : Sl → Sto → Rs Out) : TS := fun D σ H => tG Z E X (RO Z) f σ H (dE D)
def noComp : Expr → Bool
  | .ListComp _ _ _ _ => false
  | .SetComp _ _ _ _ => false
  | .DictComp _ _ _ _ _ => false
  | _ => true
def noTup : Expr → Bool
  | .Tuple _ _ _ => false
  | _ => true
theorem comp_ok {v : Expr} {t : Option Expr} {l : Nat} {env : Env} (h : noComp v = true) : swapsWith v t l env = pure false := by cases v <;> first | rfl | (simp [noComp] at h)
theorem sub_no {v o i : Expr} {p : Pos} {l : Nat} {env : Env} : swapsWith v (some (.Subscript o i p)) l env = pure false := by cases v <;> rfl
theorem tup_no {v t : Expr} {env : Env} (h : noTup v = true) : swappedStores [t] v env = pure none := by
  unfold swappedStores
  cases v <;> first | (simp [noTup] at h; done) | skip
  all_goals cases t <;> rfl
def swB (sc : Scope) (x : Str) (p : Pos) (v : Expr) (scope : Scope) : Bool := decide (sc.names.lookup x = some .local) && (p.line == v.pos.line) && !(scope.names.any fun (n, k) => n == x && (k == .local || k == .cell))
theorem sw_ok {env : Env} {x : Str} {p : Pos} {el : Expr} {gs : List Comprehension} {scope : Scope} {q : Pos} {l : Nat} (hk : env.scope.kind = .function) :
    swapsWith (.ListComp el gs scope q) (some (.Name x p)) l env = pure (swB env.scope x p (.ListComp el gs scope q) scope) := by
  have hb : env.blockKind = .function := by
    unfold Env.blockKind
    rw [hk] <;> rfl
  show (pure _ : Sem Bool) = _
  congr 1
  rw [hb]
  unfold swB Env.kindOf
  cases h : env.scope.names.lookup x with
  | none => rfl
  | some k => cases k <;> rfl
section
variable {Z : Fx} {E : Ex} {X : Cx} {F M : List Addr} {S : Sto} {H : Hp} {W : XK} {σp : Sl} {σ : L2.St}
variable {a b c : Expr} {f fb fc : Sl → Sto → Rs PV} {p pos : Pos}
theorem psI {st : Stmt} {t t' : TS} (h : PS X st t) (k : ∀ D σ H, t' D σ H → t D σ H) : PS X st t' := ⟨fun pins s σ H D I q => h.run pins s σ H D I (k D σ H q)⟩
theorem pssI {st : List Stmt} {t t' : TS} (h : PSs X st t) (k : ∀ D σ H, t' D σ H → t D σ H) : PSs X st t' := ⟨fun pins s σ H D I q => h.run pins s σ H D I (k D σ H q)⟩
theorem valO {o : Out} {u : Fl} {D : Ends} {F : List Addr} (h : Post Z E F (RO Z F) M H (.ok o S) (dE D) W) (r : Rel Z F M S H) (q : RO Z F M H o u) : dE D u H := Post.val (R := RO Z F) h r q
theorem s_asg {i : Nat} {D : Ends} (h : tS Z E X (fun σ S => (f σ S).bind fun v S1 => .ok (.nx (σ.set i (some v))) S1) D σ H) : tAsg (tE Z E X f) (gName i) D σ H := by
  obtain ⟨F, M, S, σp, W, at_, p⟩ := h
  exact (at_.seq p).imp fun x H1 ⟨v, M1, S1, x1, a1, r1, p1⟩ => valO (u := .nx (σ.set i (some x))) p1 a1.r (a1.sl.set r1)
theorem s_tgt {tg : Tg} {D : Ends} (hK : X.K = Z.K) (h : tS Z E X (fun σ S => (f σ S).bind fun v S1 => match setTg tg v σ with
    | some σ' => .ok (.nx σ') S1
    | none => .bad) D σ H) : tAsg (tE Z E X f) (gT X.K tg) D σ H := by
  obtain ⟨F, M, S, σp, W, at_, p⟩ := h
  rw [hK]
  refine (at_.seq p).imp fun x H1 ⟨v, M1, S1, x1, a1, r1, p1⟩ => ?_
  cases e : setTg tg v σp with
  | none => rw [e] at p1; exact p1.elim
  | some σ' =>
    rw [e] at p1
    exact tg_ok a1.sl r1 e fun vs q => valO (u := .nx (setV (tgIs tg) vs σ)) p1 a1.r q
theorem s_ret {D : Ends} (h : tS Z E X (fun σ S => (f σ S).bind fun v S1 => .ok (.rt v) S1) D σ H) : tRet (tE Z E X f) D σ H := by
  obtain ⟨F, M, S, σp, W, at_, p⟩ := h
  exact (at_.seq p).imp fun x H1 ⟨v, M1, S1, x1, a1, r1, p1⟩ => valO (u := .rt x) p1 a1.r r1
theorem s_retN {D : Ends} (h : tS Z E X (fun σ S => .ok (.rt .non) S) D σ H) : tRetN D σ H := by
  obtain ⟨F, M, S, σp, W, at_, p⟩ := h
  exact valO (u := .rt .non) p at_.r RV.non
theorem s_expr {D : Ends} (h : tS Z E X (fun σ S => (f σ S).bind fun _ S1 => .ok (.nx σ) S1) D σ H) : tDrop (tE Z E X f) D σ H := by
  obtain ⟨F, M, S, σp, W, at_, p⟩ := h
  exact (at_.seq p).imp fun x H1 ⟨v, M1, S1, x1, a1, r1, p1⟩ => valO (u := .nx σ) p1 a1.r a1.sl
theorem s_nx {D : Ends} (h : tS Z E X (fun σ S => .ok (.nx σ) S) D σ H) : tNext D σ H := by
  obtain ⟨F, M, S, σp, W, at_, p⟩ := h
  exact valO (u := .nx σ) p at_.r at_.sl
theorem s_ct {D : Ends} (h : tS Z E X (fun σ S => .ok (.ct σ) S) D σ H) : tCont D σ H := by
  obtain ⟨F, M, S, σp, W, at_, p⟩ := h
  exact valO (u := .ct σ) p at_.r at_.sl
theorem s_sub {D : Ends} (hK : X.K = Z.K) (h : tS Z E X (fun σ S => (f σ S).bind fun v S1 => (fb σ S1).bind fun x S2 => (fc σ S2).bind fun k S3 => match subV x k v S3 with
    | some S4 => .ok (.nx σ) S4
    | none => .bad) D σ H) : sDPut (tE Z E X fb) (tE Z E X fc) (tE Z E X f) D σ H := by
  obtain ⟨F, M, S, σp, W, at_, p⟩ := h
  refine (at_.seq p).imp fun x H1 ⟨v, M1, S1, x1, a1, r1, p1⟩ => (a1.seq p1).imp fun y H2 ⟨w, M2, S2, x2, a2, r2, p2⟩ => (a2.seq p2).imp fun z H3 ⟨k, M3, S3, x3, a3, r3, p3⟩ => ?_
  cases e : subV w k v S3 with
  | none => simp only [e] at p3; exact p3.elim
  | some S4 =>
    simp only [e] at p3
    obtain ⟨d, H4, e1, e2, e3, e4⟩ := sub_ok a3.r (RV.mono a2.r x3 r2) r3 (RV.mono a2.r x3 (RV.mono a1.r x2 r1)) e
    exact ⟨d, H4, e1, e2, p3 M3 H4 (.nx σ) e4 e3 (a3.sl.mono a3.r e4)⟩
theorem s_aug {D : Ends} {i : Nat} {op : BOp} {g : Int → Int → Int} (hop : (op = .add ∧ g = fun i j => i + j) ∨ (op = .sub ∧ g = fun i j => i - j)) (h : tS Z E X (fun σ S => match (generalizing := false) σ[i]? with
    | some (some x) => (f σ S).bind fun y S1 => match (generalizing := false) op, x, y with
      | .add, .int a, .int b => .ok (.nx (σ.set i (some (.int (a + b))))) S1
      | .sub, .int a, .int b => .ok (.nx (σ.set i (some (.int (a - b))))) S1
      | _, _, _ => .bad
    | _ => .bad) D σ H) : tAug i (tE Z E X f) (ipI g) D σ H := by
  obtain ⟨F, M, S, σp, W, at_, p⟩ := h
  dsimp only at p
  cases hs : σp[i]? with
  | none => rw [hs] at p; exact p.elim
  | some o =>
    cases o with
    | none => rw [hs] at p; exact p.elim
    | some x =>
      rw [hs] at p
      dsimp only at p
      obtain ⟨v, e1, rv⟩ := at_.sl.at_ i x hs
      refine ⟨v, e1, (at_.seq p).imp fun y H1 ⟨w, M1, S1, x1, a1, r1, p1⟩ => ?_⟩
      rcases hop with ⟨rfl, rfl⟩ | ⟨rfl, rfl⟩
      · cases x with
        | int a =>
          cases w with
          | int b =>
            cases rv; cases r1
            exact ⟨_, _, rfl, rfl, valO (u := .nx (σ.set i (some (.int _)))) p1 a1.r (a1.sl.set (.int _))⟩
          | _ => exact p1.elim
        | _ => exact p1.elim
      · cases x with
        | int a =>
          cases w with
          | int b =>
            cases rv; cases r1
            exact ⟨_, _, rfl, rfl, valO (u := .nx (σ.set i (some (.int _)))) p1 a1.r (a1.sl.set (.int _))⟩
          | _ => exact p1.elim
        | _ => exact p1.elim
theorem s_ifs {D : Ends} {g h : Sl → Sto → Rs Out} (q : tS Z E X (fun σ S => (asB (f σ S)).bind fun k S1 => if k then g σ S1 else h σ S1) D σ H) : tIfS (tT Z E X fun σ S => asB (f σ S)) (tS Z E X g) (tS Z E X h) D σ H := by
  obtain ⟨F, M, S, σp, W, at_, p⟩ := q
  refine (at_.tstep p).imp fun c H1 ⟨M1, S1, a1, p1⟩ => ?_
  cases c with
  | true =>
    rw [if_pos rfl]
    exact ⟨F, M1, S1, σp, W, a1, p1⟩
  | false =>
    rw [if_neg Bool.false_ne_true]
    exact ⟨F, M1, S1, σp, W, a1, p1⟩
theorem s_whl {D : Ends} {g : Sl → Sto → Rs Out} {n : Nat} (q : tS Z E X (fun σ S => whlGo (fun σ' S' => asB (f σ' S')) (fun σ' S' => g σ' S') n σ S) D σ H) : tWhile (tT Z E X fun σ S => asB (f σ S)) (tS Z E X g) D σ H := by
  obtain ⟨F, M, S, σp, W, at_, p⟩ := q
  exact while_ok at_.r at_.sl (fun M S H σp σ Q r sl p => ⟨F, M, S, σp, W, ⟨at_.tk, r, sl⟩, p⟩) (fun M S H σp σ D r sl p => ⟨F, M, S, σp, W, ⟨at_.tk, r, sl⟩, p⟩) p
theorem s_for {D : Ends} {src : Sl → Sto → Rs Walk} {g : Sl → Sto → Rs Out} {tg : Tg} (hK : X.K = Z.K) (q : tS Z E X (fun σ S => (src σ S).bind fun w S1 => forGo (fun S' => stays S' w) (fun σ' S' => g σ' S') tg w.1 σ S1) D σ H) : tFor (tI Z E X src) (gT X.K tg) (tS Z E X g) D σ H := by
  obtain ⟨F, M, S, σp, W, at_, p⟩ := q
  rw [hK]
  refine (at_.seq p).imp fun J H1 ⟨w, M1, S1, x1, a1, r1, p1⟩ => ?_
  exact for_ok a1.r a1.sl r1 (fun M S H σp σ D r sl p => ⟨F, M, S, σp, W, ⟨at_.tk, r, sl⟩, p⟩) p1
theorem s_seq {D : Ends} {g h : Sl → Sto → Rs Out} (q : tS Z E X (fun σ S => match g σ S with
    | .ok (.nx σ1) S1 => h σ1 S1
    | o => o) D σ H) : tSeq (tS Z E X g) (tS Z E X h) D σ H := by
  obtain ⟨F, M, S, σp, W, at_, p⟩ := q
  refine ⟨F, M, S, σp, W, at_, ?_⟩
  dsimp only at p
  cases e : g σp S with
  | bad => rw [e] at p; exact p
  | ex c fs S' => rw [e] at p; exact p
  | ok o S' =>
    rw [e] at p
    intro M1 H1 u x r ro
    cases o with
    | nx σ1 =>
      cases u with
      | nx σ2 => exact ⟨F, M1, S', σ1, W, ⟨at_.tk, r, ro⟩, Post.ext (show Post Z E F (RO Z F) M H (h σ1 S') (dE D) W from p) x⟩
      | rt v => exact ro.elim
      | ct σ2 => exact ro.elim
    | rt v =>
      cases u with
      | rt v2 => exact p M1 H1 (.rt v2) x r ro
      | nx σ2 => exact ro.elim
      | ct σ2 => exact ro.elim
    | ct v =>
      cases u with
      | ct v2 => exact p M1 H1 (.ct v2) x r ro
      | nx σ2 => exact ro.elim
      | rt σ2 => exact ro.elim
theorem s_par2 {D : Ends} {i j : Nat} {g : Sl → Sto → Rs (List PV)} (q : tS Z E X (fun σ S => (g σ S).bind fun vs S1 => if vs.length = [i, j].length then .ok (.nx (setMany [i, j] vs σ)) S1 else .bad) D σ H) : tPar i j (tA Z E X g) D σ H := by
  obtain ⟨F, M, S, σp, W, at_, p⟩ := q
  refine (at_.seq p).imp fun xs H1 ⟨vs, M1, S1, x1, a1, r1, p1⟩ => ?_
  have r1 : RVs Z F M1 H1 vs xs := r1
  split at p1
  · rename_i c
    match vs, c with
    | [v, w], _ =>
      obtain ⟨x, y, rfl, rx, ry⟩ := r1.two
      exact ⟨x, y, rfl, valO (u := .nx ((σ.set i (some x)).set j (some y))) p1 a1.r ((a1.sl.set rx).set ry)⟩
  · exact p1.elim
theorem s_par3 {D : Ends} {i j l : Nat} {g : Sl → Sto → Rs (List PV)} (q : tS Z E X (fun σ S => (g σ S).bind fun vs S1 => if vs.length = [i, j, l].length then .ok (.nx (setMany [i, j, l] vs σ)) S1 else .bad) D σ H) : tPar3 i j l (tA Z E X g) D σ H := by
  obtain ⟨F, M, S, σp, W, at_, p⟩ := q
  refine (at_.seq p).imp fun xs H1 ⟨vs, M1, S1, x1, a1, r1, p1⟩ => ?_
  have r1 : RVs Z F M1 H1 vs xs := r1
  split at p1
  · rename_i c
    match vs, c with
    | [u, v, w], _ =>
      cases r1 with
      | cons ru r2 =>
        obtain ⟨x, y, rfl, rx, ry⟩ := r2.two
        exact ⟨_, x, y, rfl, valO (u := .nx (((σ.set i (some _)).set j (some x)).set l (some y))) p1 a1.r (((a1.sl.set ru).set rx).set ry)⟩
  · exact p1.elim
end
end Ev

set_option Elab.async false
set_option linter.all false
set_option maxRecDepth 100000
/-! the check of statements, sound -/
namespace Ev
open PySem PySem.Spec PyProof.Rows L2
def lcl (sc : Scope) (x : Str) : Bool := decide (sc.names.lookup x = some .local)
def par2B (N : List Str) (sc : Scope) (i j : Nat) (ts vs : List Expr) : Bool := match ts, vs with
  | [.Name x p, .Name y q], [a, b] => decide (sc.kind = .function) && decide (N[i]? = some x) && decide (N[j]? = some y) && decide (i ≠ j) && decide (x ≠ y) && lcl sc x && lcl sc y && (p.line == q.line) && noStar a && noStar b && !([a, b].all (foldedForSure 8)) && !([a, b].all (constantsAlone 8))
  | _, _ => false
def par3B (N : List Str) (sc : Scope) (i j l : Nat) (ts vs : List Expr) : Bool := match ts, vs with
  | [.Name x p, .Name y q, .Name z r], [a, b, c] => decide (sc.kind = .function) && decide (N[i]? = some x) && decide (N[j]? = some y) && decide (N[l]? = some z) && decide (i ≠ j) && decide (i ≠ l) && decide (j ≠ l) && decide (x ≠ y) && decide (x ≠ z) && decide (y ≠ z) && lcl sc x && lcl sc y && lcl sc z &&
      (p.line == q.line) && (p.line == r.line) && noStar a && noStar b && noStar c && !([a, b, c].all (foldedForSure 8)) && !([a, b, c].all (constantsAlone 8))
  | _, _ => false
theorem star_any {a : Expr} (h : noStar a = true) : (match (generalizing := false) a with | .Starred _ _ => true | _ => false) = false := by cases a <;> first | rfl | (simp [noStar] at h)
theorem kb {env : Env} (hk : env.scope.kind = .function) : env.blockKind = .function := by
  unfold Env.blockKind
  rw [hk] <;> rfl
theorem dups2 {x y : Str} (h : x ≠ y) : ([x, y] : List Str).eraseDups.length = 2 := by
  have h1 : (y == x) = false := beq_eq_false_iff_ne.mpr (Ne.symm h)
  simp [List.eraseDups_cons, h1]
theorem dups3 {x y z : Str} (h : x ≠ y) (h2 : x ≠ z) (h3 : y ≠ z) : ([x, y, z] : List Str).eraseDups.length = 3 := by
  have e1 : (y == x) = false := beq_eq_false_iff_ne.mpr (Ne.symm h)
  have e2 : (z == x) = false := beq_eq_false_iff_ne.mpr (Ne.symm h2)
  have e3 : (z == y) = false := beq_eq_false_iff_ne.mpr (Ne.symm h3)
  simp [List.eraseDups_cons, e1, e2, e3]
theorem swap2 {env : Env} {x y : Str} {p q pt pt2 : Pos} {kt k2 : Nat} {a b : Expr} (hk : env.scope.kind = .function) (hx : env.scope.names.lookup x = some .local) (hy : env.scope.names.lookup y = some .local) (hne : x ≠ y) (hl : (p.line == q.line) = true) (ha : noStar a = true) (hb : noStar b = true)
    (hf : [a, b].all (foldedForSure 8) = false) (hc : [a, b].all (constantsAlone 8) = false) :
    swappedStores [.Tuple [.Name x p, .Name y q] kt pt] (.Tuple [a, b] k2 pt2) env = pure (some [x, y]) := by
  have h1 : env.kindOf x = some .local := hx
  have h2 : env.kindOf y = some .local := hy
  have e3 : q.line = p.line := (beq_iff_eq.mp hl).symm
  have d := dups2 hne
  have st : ([a, b].any fun | .Starred _ _ => true | _ => false) = false := by
    rw [List.any_cons, List.any_cons, List.any_nil]
    rw [show (_ : Bool) = false from star_any ha, show (_ : Bool) = false from star_any hb] <;> rfl
  unfold swappedStores
  dsimp only
  rw [kb hk]
  rw [if_neg (by simp)]
  refine Eq.trans (if_neg (fun z => Bool.false_ne_true (st.symm.trans z))) ?_
  have n : (List.filterMap (fun (e : Expr) => match e with
      | .Name id pos => if env.kindOf id == some .local && pos.line == (([Expr.Name x p, .Name y q].head?.map (·.pos.line)).getD 0) then some id else none
      | _ => none) [.Name x p, .Name y q]) = [x, y] := by
    have en : ([Expr.Name x p, .Name y q].head?.map (·.pos.line)).getD 0 = p.line := rfl
    rw [en]
    simp [h1, h2, e3]
  erw [n]
  rw [if_neg (by rw [d]; exact Bool.false_ne_true), hf, hc]
  rfl
theorem swap3 {env : Env} {x y z : Str} {p q r pt pt2 : Pos} {kt k2 : Nat} {a b c : Expr} (hk : env.scope.kind = .function) (hx : env.scope.names.lookup x = some .local) (hy : env.scope.names.lookup y = some .local) (hz : env.scope.names.lookup z = some .local) (n1 : x ≠ y) (n2 : x ≠ z) (n3 : y ≠ z) (hl : (p.line == q.line) = true) (hl2 : (p.line == r.line) = true) (ha : noStar a = true) (hb : noStar b = true) (hc' : noStar c = true)
    (hf : [a, b, c].all (foldedForSure 8) = false) (hc : [a, b, c].all (constantsAlone 8) = false) :
    swappedStores [.Tuple [.Name x p, .Name y q, .Name z r] kt pt] (.Tuple [a, b, c] k2 pt2) env = pure (some [x, y, z]) := by
  have h1 : env.kindOf x = some .local := hx
  have h2 : env.kindOf y = some .local := hy
  have h3 : env.kindOf z = some .local := hz
  have e5 : r.line = p.line := (beq_iff_eq.mp hl2).symm
  have e3 : q.line = p.line := (beq_iff_eq.mp hl).symm
  have d := dups3 n1 n2 n3
  have st : ([a, b, c].any fun | .Starred _ _ => true | _ => false) = false := by
    rw [List.any_cons, List.any_cons, List.any_cons, List.any_nil]
    rw [show (_ : Bool) = false from star_any ha, show (_ : Bool) = false from star_any hb, show (_ : Bool) = false from star_any hc'] <;> rfl
  unfold swappedStores
  dsimp only
  rw [kb hk]
  rw [if_neg (by simp)]
  refine Eq.trans (if_neg (fun z => Bool.false_ne_true (st.symm.trans z))) ?_
  have n : (List.filterMap (fun (e : Expr) => match e with
      | .Name id pos => if env.kindOf id == some .local && pos.line == (([Expr.Name x p, .Name y q, .Name z r].head?.map (·.pos.line)).getD 0) then some id else none
      | _ => none) [.Name x p, .Name y q, .Name z r]) = [x, y, z] := by
    have en : ([Expr.Name x p, .Name y q, .Name z r].head?.map (·.pos.line)).getD 0 = p.line := rfl
    rw [en]
    simp [h1, h2, h3, e3, e5]
  erw [n]
  rw [if_neg (by rw [d]; exact Bool.false_ne_true), hf, hc]
  rfl
end Ev

set_option Elab.async false
set_option linter.all false
set_option maxRecDepth 100000
/-! the check of statements, sound -/
namespace Ev
open PySem PySem.Spec PyProof.Rows L2
def isLc : IE → Bool
  | .lc _ _ _ _ _ _ => true
  | _ => false
section
variable (L : Lk) (w : Str) (N : List Str) (errs : List Str)
mutual
def chkS : IS → Bool → Scope → Stmt → Bool
  | .never, _, _, _ => true
  | .asg i e, wf, sc, st => match st with
    | .Assign [.Name x p] v _ => tg1B N none sc i (.Name x p) && (match v with
      | .ListComp _ _ scope _ => decide (sc.kind = .function) && isLc e && chkE L w N e wf sc v
      | _ => noComp v && chkE L w N e wf sc v)
    | _ => false
  | .par is es, wf, sc, st => match is, st with
    | [i, j], .Assign [.Tuple ts _ _] (.Tuple vs _ _) _ => par2B N sc i j ts vs && chkEs L w N es wf sc vs
    | [i, j, l], .Assign [.Tuple ts _ _] (.Tuple vs _ _) _ => par3B N sc i j l ts vs && chkEs L w N es wf sc vs
    | _, _ => false
  | .unp is e, wf, sc, st => match st with
    | .Assign [.Tuple ts k p] v _ => noTup v && noComp v && tgB N none sc (.many is) (.Tuple ts k p) && chkE L w N e wf sc v
    | _ => false
  | .sub o i e, wf, sc, st => match st with
    | .Assign [.Subscript x y _] v _ => chkE L w N o wf sc x && chkE L w N i wf sc y && chkE L w N e wf sc v
    | _ => false
  | .aug i op e, wf, sc, st => match st with
    | .AugAssign (.Name x p) o v _ => opB op o && (match op with | .add => true | .sub => true | _ => false) && tg1B N none sc i (.Name x p) && chkE L w N e wf sc v
    | _ => false
  | .expr e, wf, sc, st => match st with
    | .Expr v _ => noComp v && chkE L w N e wf sc v
    | _ => false
  | .ret e, wf, sc, st => match st with
    | .Return (some v) _ => chkE L w N e wf sc v
    | .Return none _ => (match e with
      | .cst .non => true
      | _ => false)
    | _ => false
  | .ifs c a b, wf, sc, st => match st with
    | .If z x y _ => chkE L w N c wf sc z && chkSs a wf sc x && chkSs b wf sc y
    | _ => false
  | .whl c b, wf, sc, st => match st with
    | .While z x [] _ => chkE L w N c wf sc z && chkSs b wf sc x
    | _ => false
  | .for tg src b, wf, sc, st => match st with
    | .For t it x [] _ => tgB N none sc tg t && notSet it && chkSrc L w N src wf sc t it && chkSs b wf sc x
    | _ => false
  | .raise c es, wf, sc, st => match st with
    | .Raise (some (.Call (.Name x _) (a :: as) [] _)) none _ => decide (errs[c]? = some x) && glB sc x && okN x && (a :: as).all noStar && chkEs L w N es wf sc (a :: as)
    | _ => false
  | .pass, _, _, st => match st with
    | .Pass _ => true
    | .Expr (.Constant (.str _) _ _) _ => true
    | _ => false
  | .cont, _, _, st => match st with
    | .Continue _ => true
    | _ => false
def chkSs : ISs → Bool → Scope → List Stmt → Bool
  | .nil, _, _, sts => match sts with
    | [] => true
    | _ :: _ => false
  | .cons s r, wf, sc, sts => match sts with
    | st :: rest => chkS s wf sc st && chkSs r wf sc rest
    | [] => false
end
end
/-- what a raise is to do -/
def RsRule (Z : Fx) (E : Ex) (C : Ctx) (errs : List Str) (sc : Scope) (X : Cx) : Prop :=
  ∀ (c : Nat) (x : Str) (a : Expr) (as : List Expr) (g : Sl → Sto → Rs (List PV)) (p q pos : Pos), errs[c]? = some x → glB sc x = true → okN x = true → (a :: as).all noStar = true → PA X (a :: as) (tA Z E X g) →
    PS X (.Raise (some (.Call (.Name x p) (a :: as) [] q)) none pos) (tS Z E X fun σ S => (g σ S).bind fun vs S1 => match C.mkE c vs with
      | some fs => .ex c fs S1
      | none => .bad)
structure Hs (L : Lk) (Z : Fx) (C : Ctx) (E : Ex) (w : Str) (n : Nat) (N : List Str) (errs : List Str) (wf : Bool) (sc : Scope) (X : Cx) : Prop where
  hx : Hx L Z C E w n N wf sc X
  ps : PassesOwn (model X.prog X.w) X.A X.env X.xe
  fn : ∀ x, X.fn x = true
  rs : RsRule Z E C errs sc X
section
variable {L : Lk} {Z : Fx} {C : Ctx} {E : Ex} {w : Str} {n : Nat} {N : List Str} {errs : List Str} {wf : Bool} {sc : Scope} {X : Cx}
theorem Hs.tg (hs : Hs L Z C E w n N errs wf sc X) {tg : Tg} {e : Expr} (h : tgB N none sc tg e = true) : PG X e (gT X.K tg) := tgB_ok hs.hx.N hs.hx.nd hs.hx.scp (fun x _ => hs.fn x) hs.hx.calm h
theorem neverS {α : Type} {D : Ends} {σ : L2.St} {H : Hp} (h : tS Z E X (fun _ _ => .bad) D σ H) : False := never_ok h
theorem tup_al {ts : List Expr} {k : Nat} {p : Pos} {env : Env} : (assignEach [Expr.Tuple ts k p] env).map (·.2) = [assign (.Tuple ts k p) env] := rfl
theorem asg_lc {i : Nat} {e : IE} {x : Str} {p q pos : Pos} {el : Expr} {gs : List Comprehension} {scope : Scope} (hs : Hs L Z C E w n N errs wf sc X) (hi0 : N[i]? = some x) (hk : X.env.scope.kind = .function) (hsw : swB X.env.scope x p (.ListComp el gs scope q) scope = true) (hil : isLc e = true)
    (hlc : chkE L w N e wf sc (.ListComp el gs scope q) = true) : PS X (.Assign [.Name x p] (.ListComp el gs scope q) pos) (tS Z E X (evS C (.asg i e))) := by
  have hi : X.N[i]? = some x := by rw [hs.hx.N]; exact hi0
  obtain ⟨m, own, tg, src, ifs, elt, rfl⟩ : ∃ m own tg src ifs elt, e = .lc m own tg src ifs elt := by
    cases e <;> first | exact ⟨_, _, _, _, _, _, rfl⟩ | cases hil
  unfold chkE at hlc
  split at hlc
  · rename_i x' t it cs k scope' p' heq
    cases heq
    simp only [Bool.and_eq_true, decide_eq_true_eq, List.all_eq_true] at hlc
    obtain ⟨⟨⟨⟨⟨⟨⟨⟨g1, g2⟩, g3⟩, g4⟩, g5⟩, g6⟩, g7⟩, g8⟩, g9⟩ := hlc
    subst g1
    have lo : LcOk Z E X (ownL N own) scope tg t it cs el (evSrc C src) (evIf C ifs) (evE C elt) := ⟨sSrc src hs.hx g7, by rw [hs.hx.N, hs.hx.scp]; exact blkOk_by g3,
      fun s H D cl fp => tgB_ok (X := X.blk s H scope (compEnvC scope cl D X.env) fp) (inner := some scope) hs.hx.blk.N hs.hx.blk.nd hs.hx.blk.scp (fun x hx' => by
        have := of_decide_eq_true hx'
        show (scope.names.lookup x == some .cell) = true
        rw [this] <;> rfl) hs.hx.calm g6,
      fun s H D cl fp => ptsI (sIf ifs (hs.hx.blk (s := s) (H := H) (scope := scope) (cl := cl) (D := D) (fp := fp)) g8) fun σ H Q q => q.to,
      fun s H D cl fp => peI (sE elt (hs.hx.blk (s := s) (H := H) (scope := scope) (cl := cl) (D := D) (fp := fp)) g9).1 fun σ H Q q => q.to, (set_ok g2).1⟩
    have hloc : X.env.scope.names.lookup x = some .local := by
      unfold swB at hsw
      simp only [Bool.and_eq_true, decide_eq_true_eq] at hsw
      exact hsw.1.1
    refine psI (ps_setLc hs.hx.calm hs.hx.nd hi hloc ((sw_ok hk).trans (by rw [hsw])) lo.hi lo.ok lo.hg lo.ht lo.he lo.hs) fun D σ H q => ?_
    show tLc _ _ _ _ ((ownL N own).map (·.2)) σ H _
    rw [g4]
    exact lc_conv hs.hx.K g5 (s_asg q)
  · cases hlc
mutual
theorem sS : ∀ (s : IS) {wf : Bool} {sc : Scope} {X : Cx} {st : Stmt}, Hs L Z C E w n N errs wf sc X → chkS L w N errs s wf sc st = true → PS X st (tS Z E X (evS C s))
  | .never, wf, sc, X, st, hs, h => psI ps_never fun D σ H q => (never_ok q).elim
  | .asg i e, wf, sc, X, st, hs, h => by
    unfold chkS at h
    split at h
    · rename_i x p v pos
      rw [Bool.and_eq_true] at h
      obtain ⟨h1, h2⟩ := h
      have h1' : N[i]? = some x ∧ stB none sc x = true := by simpa [tg1B] using h1
      obtain ⟨l1, l2⟩ := st_ok hs.hx.scp (fun x _ => hs.fn x) h1'.2
      have hi : X.N[i]? = some x := by rw [hs.hx.N]; exact h1'.1
      split at h2
      · rename_i el gs scope q
        simp only [Bool.and_eq_true, decide_eq_true_eq] at h2
        have hk : X.env.scope.kind = .function := by rw [hs.hx.scp]; exact h2.1.1
        have hil := h2.1.2
        cases hsw : swB X.env.scope x p (.ListComp el gs scope q) scope with
        | false => exact psI (ps_set hs.hx.nd hi l1 (sE e hs.hx h2.2).1 ((sw_ok hk).trans (by rw [hsw])) l2) fun D σ H q => s_asg q
        | true =>
          have hlc := h2.2
          exact asg_lc hs h1'.1 hk hsw hil hlc
      · rename_i hne
        rw [Bool.and_eq_true] at h2
        exact psI (ps_set hs.hx.nd hi l1 (sE e hs.hx h2.2).1 (comp_ok h2.1) l2) fun D σ H q => s_asg q
    · cases h
  | .par is es, wf, sc, X, st, hs, h => by
    unfold chkS at h
    split at h
    · rename_i i j ts _ _ vs _ _ _
      rw [Bool.and_eq_true] at h
      obtain ⟨h1, h2⟩ := h
      unfold par2B at h1
      split at h1
      · simp only [Bool.and_eq_true, decide_eq_true_eq, Bool.not_eq_true', lcl] at h1
        obtain ⟨⟨⟨⟨⟨⟨⟨⟨⟨⟨⟨a1, a2⟩, a3⟩, a4⟩, a5⟩, a6⟩, a7⟩, a8⟩, a9⟩, b1⟩, b2⟩, b3⟩ := h1
        have k := sEs es hs.hx h2
        have k2 := k.pa (by rw [List.all_cons, List.all_cons, a9, b1] <;> rfl)
        rw [← hs.hx.scp] at a1 a6 a7
        exact psI (ps_par hs.hx.calm hs.hx.nd (by rw [hs.hx.N]; exact a2) (by rw [hs.hx.N]; exact a3) a4 a6 a7 k2 (swap2 a1 a6 a7 a5 a8 a9 b1 b2 b3) rfl) fun D σ H q => s_par2 q
      · cases h1
    · rename_i i j l ts _ _ vs _ _ _
      rw [Bool.and_eq_true] at h
      obtain ⟨h1, h2⟩ := h
      unfold par3B at h1
      split at h1
      · simp only [Bool.and_eq_true, decide_eq_true_eq, Bool.not_eq_true', lcl] at h1
        obtain ⟨⟨⟨⟨⟨⟨⟨⟨⟨⟨⟨⟨⟨⟨⟨⟨⟨⟨⟨a1, a2⟩, a3⟩, a4⟩, a5⟩, a6⟩, a7⟩, a8⟩, a9⟩, b1⟩, b2⟩, b3⟩, b4⟩, b5⟩, b6⟩, b7⟩, b8⟩, b9⟩, c1⟩, c2⟩ := h1
        have k := sEs es hs.hx h2
        have k2 := k.pa (by rw [List.all_cons, List.all_cons, List.all_cons, b7, b8, b9] <;> rfl)
        rw [← hs.hx.scp] at a1 b2 b3 b4
        exact psI (ps_par3 hs.hx.calm hs.hx.nd (by rw [hs.hx.N]; exact a2) (by rw [hs.hx.N]; exact a3) (by rw [hs.hx.N]; exact a4) a5 a6 a7 b2 b3 b4 k2 (swap3 a1 b2 b3 b4 a8 a9 b1 b5 b6 b7 b8 b9 c1 c2) rfl) fun D σ H q => s_par3 q
      · cases h1
    · cases h
  | .unp is e, wf, sc, X, st, hs, h => by
    unfold chkS at h
    split at h
    · rename_i ts k p v pos
      simp only [Bool.and_eq_true] at h
      obtain ⟨⟨⟨h1, h2⟩, h3⟩, h4⟩ := h
      have hsw : swapsWithSole [Expr.Tuple ts k p] v pos.line X.env = pure false := show swapsWith v (some (.Tuple ts k p)) pos.line X.env = pure false from comp_ok h2
      exact psI (ps_asg (sE e hs.hx h4).1 (hs.tg h3) hsw (tup_no h1) tup_al) fun D σ H q => s_tgt hs.hx.K q
    · cases h
  | .sub o i e, wf, sc, X, st, hs, h => by
    unfold chkS at h
    split at h
    · simp only [Bool.and_eq_true] at h
      have hu := hs.hx.u
      exact psI (ps_dput (by omega) (sE o hs.hx h.1.1).1 (sE i hs.hx h.1.2).1 (sE e hs.hx h.2).1 sub_no) fun D σ H q => s_sub hs.hx.K q
    · cases h
  | .aug i op e, wf, sc, X, st, hs, h => by
    unfold chkS at h
    split at h
    · rename_i x p o v pos
      simp only [Bool.and_eq_true] at h
      obtain ⟨⟨⟨h1, h2⟩, h3⟩, h4⟩ := h
      have h3' : N[i]? = some x ∧ stB none sc x = true := by simpa [tg1B] using h3
      obtain ⟨l1, l2⟩ := st_ok hs.hx.scp (fun x _ => hs.fn x) h3'.2
      have hi : X.N[i]? = some x := by rw [hs.hx.N]; exact h3'.1
      rw [opB_ok h1]
      cases op with
      | add => exact psI (ps_aug hs.hx.nd hi l1 (sE e hs.hx h4).1 ip_add l2) fun D σ H q => s_aug (.inl ⟨rfl, rfl⟩) q
      | sub => exact psI (ps_aug hs.hx.nd hi l1 (sE e hs.hx h4).1 ip_sub l2) fun D σ H q => s_aug (.inr ⟨rfl, rfl⟩) q
      | _ => cases h2
    · cases h
  | .expr e, wf, sc, X, st, hs, h => by
    unfold chkS at h
    split at h
    · rw [Bool.and_eq_true] at h
      exact psI (ps_expr (sE e hs.hx h.2).1 (comp_ok h.1)) fun D σ H q => s_expr q
    · cases h
  | .ret e, wf, sc, X, st, hs, h => by
    unfold chkS at h
    split at h
    · exact psI (ps_ret (sE e hs.hx h).1) fun D σ H q => s_ret q
    · split at h
      · exact psI ps_retN fun D σ H q => s_retN q
      · cases h
    · cases h
  | .ifs c a b, wf, sc, X, st, hs, h => by
    unfold chkS at h
    split at h
    · simp only [Bool.and_eq_true] at h
      exact psI (ps_if (sE c hs.hx h.1.1).2 (sSs a hs h.1.2) (sSs b hs h.2)) fun D σ H q => s_ifs q
    · cases h
  | .whl c b, wf, sc, X, st, hs, h => by
    unfold chkS at h
    split at h
    · simp only [Bool.and_eq_true] at h
      exact psI (ps_while hs.ps (sE c hs.hx h.1).2 (sSs b hs h.2)) fun D σ H q => s_whl q
    · cases h
  | .for tg src b, wf, sc, X, st, hs, h => by
    unfold chkS at h
    split at h
    · simp only [Bool.and_eq_true] at h
      obtain ⟨⟨⟨h1, h2⟩, h3⟩, h4⟩ := h
      exact psI (ps_for hs.ps hs.hx.calm (sSrc src hs.hx h3) (hs.tg h1) (sSs b hs h4) (set_ok h2).1) fun D σ H q => s_for hs.hx.K q
    · cases h
  | .raise c es, wf, sc, X, st, hs, h => by
    unfold chkS at h
    split at h
    · simp only [Bool.and_eq_true, decide_eq_true_eq] at h
      obtain ⟨⟨⟨⟨h1, h2⟩, h3⟩, h4⟩, h5⟩ := h
      exact hs.rs c _ _ _ _ _ _ _ h1 h2 h3 h4 ((sEs es hs.hx h5).pa h4)
    · cases h
  | .pass, wf, sc, X, st, hs, h => by
    unfold chkS at h
    split at h
    · exact psI ps_pass fun D σ H q => s_nx q
    · exact psI ps_doc fun D σ H q => s_nx q
    · cases h
  | .cont, wf, sc, X, st, hs, h => by
    unfold chkS at h
    split at h
    · exact psI ps_continue fun D σ H q => s_ct q
    · cases h
theorem sSs : ∀ (s : ISs) {wf : Bool} {sc : Scope} {X : Cx} {sts : List Stmt}, Hs L Z C E w n N errs wf sc X → chkSs L w N errs s wf sc sts = true → PSs X sts (tS Z E X (evSs C s))
  | .nil, wf, sc, X, st, hs, h => by
    unfold chkSs at h
    split at h
    · exact pssI pss_nil fun D σ H q => s_nx q
    · cases h
  | .cons s r, wf, sc, X, st, hs, h => by
    unfold chkSs at h
    split at h
    · rw [Bool.and_eq_true] at h
      exact pssI (pss_cons (sS s hs h.1) (sSs r hs h.2)) fun D σ H q => s_seq q
    · cases h
end
end
end Ev

set_option Elab.async false
set_option linter.all false
set_option maxRecDepth 100000
/-! defs: what is checked keeps its promise -/
namespace Ev
open PySem PySem.Spec PyProof.Rows L2
section
variable {Z : Fx} {E : Ex} {F M M' : List Addr} {S S' : Sto} {H H' : Hp} {W : XK}
/-! ### a pure def -/
theorem frz_rv2 {F' M2 : List Addr} (r : Rel Z F M S H) (c1 : ∀ a ∈ F', a ∈ F ∧ a ∉ M) (c2 : ∀ a ∈ M2, a ∈ F ∧ a ∉ M) : ∀ (n : Nat) {p p' : PV} {v : V}, frz S n p = some p' → RV Z F M H p v → RV Z F' M2 H p' v
  | 0, p, p', v, e, _ => by simp [frz] at e
  | n + 1, p, p', v, e, h => by
    have go : ∀ {l l' : List PV} {xs : List V}, allO (frz S n) l = some l' → RVs Z F M H l xs → RVs Z F' M2 H l' xs := fun e h => allO_rv e h fun p p' v _ e h => frz_rv2 r c1 c2 n e h
    have out1 : ∀ a, a ∉ F → a ∉ F' ∧ a ∉ M2 := fun a h => ⟨fun z => h (c1 a z).1, fun z => h (c2 a z).1⟩
    have out2 : ∀ a, a ∈ M → a ∉ F' ∧ a ∉ M2 := fun a h => ⟨fun z => (c1 a z).2 h, fun z => (c2 a z).2 h⟩
    unfold frz at e
    split at e
    · rename_i hn
      cases e
      exact RV.free hn h F' M2 (fun a z => .inl (c1 a z).1) (fun a z => .inl (c2 a z).1)
    cases p with
    | non => cases h; simp at e; subst e; exact .non
    | bl b => cases h; simp at e; subst e; exact .bl _
    | int b => cases h; simp at e; subst e; exact .int _
    | str b => cases h; simp at e; subst e; exact .str _
    | tup l =>
      cases h with
      | tup h1 h2 =>
        obtain ⟨l', e1, e2⟩ := Option.map_eq_some_iff.mp (show (allO (frz S n) l).map .tup = some p' from e)
        subst e2
        exact .tup h1 (go e1 h2)
    | lst l =>
      cases h with
      | lst h1 h2 h3 h4 =>
        obtain ⟨l', e1, e2⟩ := Option.map_eq_some_iff.mp (show (allO (frz S n) l).map .lst = some p' from e)
        subst e2
        exact .lst h1 (out1 _ h2).1 (out1 _ h2).2 (go e1 h4)
    | dct ks l =>
      cases h with
      | dct h1 h2 h3 h4 h5 =>
        obtain ⟨l', e1, e2⟩ := Option.map_eq_some_iff.mp (show (allO (frz S n) l).map (.dct ks) = some p' from e)
        subst e2
        exact .dct h1 (out1 _ h2).1 (out1 _ h2).2 h4 (go e1 h5)
    | ref k =>
      cases h with
      | ref h1 =>
        have e0 : (match S[k]? with
          | some (.lst l) => (allO (frz S n) l).map PV.lst
          | some (.dct l) => (allO (frz S n) (l.map (·.2))).map (.dct (l.map (·.1)))
          | none => none) = some p' := e
        have hm := List.mem_of_getElem? h1
        cases hk : S[k]? with
        | none => rw [hk] at e0; cases e0
        | some o =>
          rw [hk] at e0
          have q := r.ob k _ o h1 hk
          cases o with
          | lst l =>
            obtain ⟨xs, q1, q2⟩ := q
            obtain ⟨l', e1, e2⟩ := Option.map_eq_some_iff.mp (show (allO (frz S n) l).map PV.lst = some p' from e0)
            subst e2
            exact .lst (.inl q1) (out2 _ hm).1 (out2 _ hm).2 (go e1 q2)
          | dct l =>
            obtain ⟨kvs, q1, q2, q3⟩ := q
            obtain ⟨l', e1, e2⟩ := Option.map_eq_some_iff.mp (show (allO (frz S n) (l.map (·.2))).map (PV.dct (l.map (·.1))) = some p' from e0)
            subst e2
            exact .dct q1 (out2 _ hm).1 (out2 _ hm).2 q2 (go e1 q3)
    | err _ _ _ => cases h
theorem frzV_rv2 {F' M2 : List Addr} (r : Rel Z F M S H) (c1 : ∀ a ∈ F', a ∈ F ∧ a ∉ M) (c2 : ∀ a ∈ M2, a ∈ F ∧ a ∉ M) {p p' : PV} {v : V} (e : frzV S p = some p') (h : RV Z F M H p v) : RV Z F' M2 H p' v := by
  unfold frzV at e
  split at e
  · rename_i n
    cases e
    exact RV.free n h F' M2 (fun a z => .inl (c1 a z).1) (fun a z => .inl (c2 a z).1)
  · exact frz_rv2 r c1 c2 _ e h
/-- behind a call over an empty store: one's own store stands as it stood -/
theorem back {Fc Mc : List Addr} {Sc : Sto} (r : Rel Z F M S H) (x : Ext [] H Mc H') (rc : Rel Z Fc Mc Sc H') : Ext M H M H' ∧ Rel Z F M S H' := by
  have x2 : Ext M H M H' := ⟨⟨[], by simp⟩, fun _ h => .inl h, fun a o h _ t => x.keep a o h (by simp) t, x.tup, x.fre⟩
  have at_ : ∀ a ∈ M, H' a = H a := fun a h => by
    obtain ⟨o, e, t, _, _⟩ := r.tr h
    rw [e]
    exact x.keep a o e (by simp) t
  refine ⟨x2, r.len, r.nd, fun n a o h1 h2 => (r.ob n a o h1 h2).mono r x2 (at_ a (List.mem_of_getElem? h1)), r.dis, fun a ha => ?_, rc.tabs⟩
  obtain ⟨o, e, t⟩ := r.there a ha
  exact ⟨o, x.keep a o e (by simp) t, t⟩
theorem allO_noRef {S : Sto} : ∀ {l l' : List PV}, noRefs l = true → allO (frzV S) l = some l' → l' = l
  | [], l', _, e => by simpa [allO] using e.symm
  | p :: r, l', n, e => by
    have n2 : noRef p = true ∧ noRefs r = true := by simpa [noRefs] using n
    unfold allO at e
    split at e
    · rename_i y s e1 e2
      cases e
      have e3 : frzV S p = some p := by unfold frzV; rw [if_pos n2.1]
      rw [e3] at e1
      cases e1
      rw [allO_noRef n2.2 e2]
    · cases e
theorem empty_rel {Fc : List Addr} (r : Rel Z F M S H) (c : ∀ a ∈ Fc, a ∈ F ∨ a ∈ M) : Rel Z Fc [] [] H :=
  ⟨rfl, .nil, fun n a o h _ => by simp at h, fun _ _ h => by simp at h, fun a ha => by
    rcases c a ha with h | h
    · exact r.there a h
    · obtain ⟨o, e, t, _⟩ := r.tr h
      exact ⟨o, e, t⟩, r.tabs⟩
theorem pure_spec {C : Ctx} {d : FnD} {ps : List PV} {vs : List V} {Q : VK} (r : Rel Z F M S H) (rv : RVs Z F M H ps vs) (p : Post Z E F (R1 Z F) M H (pureF C d ps S) Q W) :
    ∃ (Fc : List Addr) (ws : List PV), Rel Z Fc [] [] H ∧ RVs Z Fc [] H ws vs ∧ Post Z E Fc (R1 Z Fc) [] H (runF C d ws []) Q W := by
  unfold pureF at p
  cases ha : allO (frzV S) ps with
  | none => rw [ha] at p; exact p.elim
  | some ws =>
    rw [ha] at p
    dsimp only at p
    have ex : ∀ (Fc : List Addr) (c : Nat) (fs : List PV) (Sc : Sto), Post Z E F (R1 Z F) M H (if flats fs then (.ex c fs S : Rs PV) else .bad) Q W → Post Z E Fc (R1 Z Fc) [] H (.ex c fs Sc) Q W := fun Fc c fs Sc p => by
      split at p
      · intro M1 H1 cls d x rc q
        obtain ⟨x2, r2⟩ := back r x rc
        exact p M H1 cls d x2 r2 q
      · exact p.elim
    by_cases hn : noRefs ps = true
    · have hw := allO_noRef hn ha
      subst hw
      have r0 : Rel Z (F ++ M) [] [] H := empty_rel r fun a h => List.mem_append.mp h
      refine ⟨F ++ M, ws, r0, RVs.free hn rv (F ++ M) [] (fun a h => List.mem_append.mp h) (fun a h => by simp at h), ?_⟩
      cases hr : runF C d ws [] with
      | bad => rw [hr] at p; exact p
      | ex c fs Sc => rw [hr] at p; exact ex _ c fs Sc p
      | ok v Sc =>
        rw [hr] at p
        dsimp only at p
        intro M1 H1 u x rc rvc
        obtain ⟨x2, r2⟩ := back r x rc
        cases hf : frzV Sc v with
        | none => rw [hf] at p; exact p.elim
        | some z =>
          rw [hf] at p
          dsimp only at p
          rw [hn, Bool.true_or, if_pos rfl] at p
          refine p M H1 u x2 r2 (frzV_rv2 rc (fun a h => ⟨List.mem_append_left _ h, rc.dis a (List.mem_append_left _ h)⟩) (fun a h => ⟨List.mem_append_right _ h, rc.dis a (List.mem_append_right _ h)⟩) hf rvc)
    · have hn' : noRefs ps = false := by simpa using hn
      have r0 : Rel Z [] [] [] H := empty_rel r fun a h => by simp at h
      refine ⟨[], ws, r0, allO_rv ha rv fun p p' v _ e h => frzV_rv r e h, ?_⟩
      cases hr : runF C d ws [] with
      | bad => rw [hr] at p; exact p
      | ex c fs Sc => rw [hr] at p; exact ex _ c fs Sc p
      | ok v Sc =>
        rw [hr] at p
        dsimp only at p
        intro M1 H1 u x rc rvc
        obtain ⟨x2, r2⟩ := back r x rc
        cases hf : frzV Sc v with
        | none => rw [hf] at p; exact p.elim
        | some z =>
          rw [hf] at p
          dsimp only at p
          rw [hn', Bool.false_or] at p
          split at p
          · rename_i hfl
            exact p M H1 u x2 r2 (RV.flat hfl (frzV_rv rc hf rvc) F M)
          · exact p.elim
/-! ### a def's body -/
theorem start_sl {N : List Str} {d : FnD} {ps : List PV} {vs : List V} (rv : RVs Z F M H ps vs) (h1 : ps.length = d.np) (h2 : d.ns = N.length) : SlR Z F M H (ps.map some ++ List.replicate (d.ns - d.np) none) (L2.start N vs) := by
  unfold L2.start
  have hl := rv.len
  refine ⟨by simp only [List.length_append, List.length_map, List.length_replicate]; rw [h2, ← h1, hl], fun i p e => ?_⟩
  by_cases hi : i < ps.length
  · rw [List.getElem?_append_left (by simpa using hi), List.getElem?_map] at e
    obtain ⟨q, e1, e2⟩ := Option.map_eq_some_iff.mp e
    cases e2
    obtain ⟨v, e3, rv'⟩ := rv.get e1
    refine ⟨v, ?_, rv'⟩
    rw [List.getElem?_append_left (by rw [List.length_map, ← hl]; exact hi), List.getElem?_map, e3] <;> rfl
  · rw [List.getElem?_append_right (by simpa using hi)] at e
    have := List.getElem?_replicate (n := d.ns - d.np) (a := (none : Option PV)) (i := i - (ps.map some).length)
    rw [this] at e
    split at e <;> cases e
theorem body_post {C : Ctx} {d : FnD} {ps : List PV} {Q : VK} (p : Post Z E F (R1 Z F) M H (runF C d ps S) Q W) : ps.length = d.np ∧ Post Z E F (RO Z F) M H (evSs C d.body (ps.map some ++ List.replicate (d.ns - d.np) none) S) (dE { nx := fun _ H' => Q .non H', rt := Q }) W := by
  unfold runF at p
  split at p
  · rename_i hl
    refine ⟨hl, ?_⟩
    cases e : evSs C d.body (ps.map some ++ List.replicate (d.ns - d.np) none) S with
    | bad => rw [e] at p; exact p
    | ex c fs S' => rw [e] at p; exact p
    | ok o S' =>
      rw [e] at p
      intro M1 H1 u x r ro
      cases o with
      | nx σ1 =>
        cases u with
        | nx σ2 => exact p M1 H1 .non x r RV.non
        | rt v => exact ro.elim
        | ct σ2 => exact ro.elim
      | rt v =>
        cases u with
        | rt v2 => exact p M1 H1 v2 x r ro
        | nx σ2 => exact ro.elim
        | ct σ2 => exact ro.elim
      | ct v => exact p.elim
  · exact p.elim
end

/-! ### defs, calls so many in one another -/
structure DefI where
  name : Str
  pn : List Str
  N : List Str
  wf : Bool
  params : Arguments
  body : List Stmt
  scope : Scope
def scopeB (N P : List Str) (sc : Scope) : Bool :=
  decide (sc.kind = .function) && !sc.isCoroutine && !sc.isGenerator && decide N.Nodup && decide (N.take P.length = P) && (P.all fun x => decide (sc.names.lookup x = some .local) || decide (sc.names.lookup x = some .cell)) && sc.names.all fun y => !decide (y.2 = .free)
theorem scopeB_ok {N P : List Str} {sc : Scope} (h : scopeB N P sc = true) : FnScope N P sc := by
  unfold scopeB at h
  simp only [Bool.and_eq_true, Bool.not_eq_true', decide_eq_true_eq, List.all_eq_true, Bool.or_eq_true, decide_eq_false_iff_not] at h
  obtain ⟨⟨⟨⟨⟨⟨h1, h2⟩, h3⟩, h4⟩, h5⟩, h6⟩, h7⟩ := h
  exact ⟨h1, h2, h3, h4, h5, h6, h7⟩
def dchk (L : Lk) (w : Str) (errs : List Str) (D : DefI) (d : FnD) : Bool := scopeB D.N D.pn D.scope && decide (d.np = D.pn.length) && decide (d.ns = D.N.length) && chkSs L w D.N errs d.body D.wf D.scope D.body
/-- what is known of the program's place -/
structure Pl (P0 : Pg) (L : Lk) (w : Str) (errs : List Str) (ds : List DefI) (st : Nat) (Z : Fx) (E : Ex) (P : Program) (wo : World) (mg : Str → Option Value) (base : Heap) : Prop where
  st : 1 ≤ st
  fns : L.fns = ds.map fun D => (D.name, D.pn)
  len : P0.fns.length = ds.length
  chk : ∀ (i : Nat) (D : DefI) (d : FnD), ds[i]? = some D → P0.fns[i]? = some d → dchk L w errs D d = true
  defs : ∀ D ∈ ds, ∃ f fd, FunD Z.K D.name D.name D.params D.body D.scope [] [] f fd ∧ mg D.name = some (.ref f) ∧ Binds Z.K fd D.pn [] ∧ (D.name ∈ L.kws → ∀ (s : Shared) (us : List Value), Z.K.In s.heap → us.length = D.pn.length → BindsTo s fd ⟨[], D.pn.zip us⟩ (D.pn.zip us))
  gls : ∀ (i : Nat) (x : Str), L.gls[i]? = some x → ∃ p v u, P0.gls[i]? = some p ∧ mg x = some u ∧ RelV v u ∧ ∀ F M H, RV Z F M H p v
  bts : ∀ x ∈ L.bts, mg x = none
/-- defs keep their promises, calls n in one another -/
def Kept (P0 : Pg) (L : Lk) (ds : List DefI) (st : Nat) (Z : Fx) (E : Ex) (P : Program) (wo : World) (mg : Str → Option Value) (base : Heap) (n : Nat) : Prop :=
  ∀ (i : Nat) (D : DefI), ds[i]? = some D → ∃ f fd, mg D.name = some (.ref f) ∧ PySem.W.keepIn Z.K (.ref f) = true ∧ Binds Z.K fd D.pn [] ∧ (D.name ∈ L.kws → ∀ (s : Shared) (us : List Value), Z.K.In s.heap → us.length = D.pn.length → BindsTo s fd ⟨[], D.pn.zip us⟩ (D.pn.zip us)) ∧
    Runs Z E P wo mg base (n * st) f fd D.pn (evF P0 n i)
/-- the two rules that lean on the program's classes -/
structure Rules (P0 : Pg) (L : Lk) (w : Str) (errs : List Str) (ds : List DefI) (st : Nat) (Z : Fx) (E : Ex) (P : Program) (wo : World) (mg : Str → Option Value) (base : Heap) : Prop where
  wd : ∀ (n : Nat) (D : DefI), D ∈ ds → D.wf = true → Kept P0 L ds st Z E P wo mg base n → ∀ (f : Addr) (cdv : Value) (A : Around) (outer : List Env) (s : Shared) (H : Hp) (W : XK), A.guards = some [] → Room ((n + 1) * st - 1) (A.deeper (envOfC D.name D.scope s.heap.objs.size f cdv)) →
    (∃ oc od fd osl, Z.K.lookup f = some ⟨oc, od, .func fd, osl⟩ ∧ fd.code = cdv) → PySem.W.codeIn Z.K cdv D.name = true → mg D.name = some (.ref f) → WdRule Z E (ctxOf P0 (evF P0 n)) w (n * st) D.scope (cxOf (L2.CX P wo) P wo Z.K mg base D.N D.name D.scope f cdv A outer s H W)
  rs : ∀ (n : Nat) (D : DefI), D ∈ ds → ∀ (f : Addr) (cdv : Value) (A : Around) (outer : List Env) (s : Shared) (H : Hp) (W : XK), Room ((n + 1) * st - 1) (A.deeper (envOfC D.name D.scope s.heap.objs.size f cdv)) →
    RsRule Z E (ctxOf P0 (evF P0 n)) errs D.scope (cxOf (L2.CX P wo) P wo Z.K mg base D.N D.name D.scope f cdv A outer s H W)
section
variable {P0 : Pg} {L : Lk} {w : Str} {errs : List Str} {ds : List DefI} {st : Nat} {Z : Fx} {E : Ex} {P : Program} {wo : World} {mg : Str → Option Value} {base : Heap}
theorem kept (pl : Pl P0 L w errs ds st Z E P wo mg base) (ru : Rules P0 L w errs ds st Z E P wo mg base) : ∀ n, Kept P0 L ds st Z E P wo mg base n
  | 0 => fun i D hD => by
    obtain ⟨f, fd, F, h1, h2, h3⟩ := pl.defs D (List.mem_of_getElem? hD)
    refine ⟨f, fd, h1, F.kp, h2, h3, fun ps S h => absurd rfl h, fun A outer s H args us vs ps F M S Q W hr hg e0 hb r1 r2 r3 p => (p : False).elim⟩
  | n + 1 => fun i D hD => by
    have ih := kept pl ru n
    have hm := List.mem_of_getElem? hD
    obtain ⟨f, fd, FD, h1, h2, h3⟩ := pl.defs D hm
    have hi : i < P0.fns.length := by
      rw [pl.len]
      exact (List.getElem?_eq_some_iff.mp hD).1
    have hd : P0.fns[i]? = some P0.fns[i] := List.getElem?_eq_getElem hi
    generalize P0.fns[i] = d at hd
    have hc := pl.chk i D d hD hd
    unfold dchk at hc
    simp only [Bool.and_eq_true, decide_eq_true_eq] at hc
    obtain ⟨⟨⟨c1, c2⟩, c3⟩, c4⟩ := hc
    have sem : ∀ ps S, evF P0 (n + 1) i ps S = if d.pure then pureF (ctxOf P0 (evF P0 n)) d ps S else runF (ctxOf P0 (evF P0 n)) d ps S := fun ps S => by
      show (match P0.fns[i]? with
        | some d => if d.pure then pureF (ctxOf P0 (evF P0 n)) d ps S else runF (ctxOf P0 (evF P0 n)) d ps S
        | none => .bad) = _
      rw [hd]
    have lenR : ∀ ps S, runF (ctxOf P0 (evF P0 n)) d ps S ≠ .bad → ps.length = D.pn.length := fun ps S h => by
      unfold runF at h
      split at h
      · rename_i hl
        rw [hl, c2]
      · exact absurd rfl h
    have lenA : ∀ {f : PV → Option PV} {l l' : List PV}, allO f l = some l' → l'.length = l.length := fun {f l} => by
      induction l with
      | nil =>
        intro l' e
        have e2 : l' = [] := by simpa [allO] using e.symm
        rw [e2]
      | cons a r ih =>
        intro l' e
        unfold allO at e
        split at e
        · rename_i y s e1 e2
          cases e
          simp [ih e2]
        · cases e
    refine ⟨f, fd, h1, FD.kp, h2, h3, fun ps S h => ?_, fun A outer s H args us vs ps F M S Q W hr hg e0 hb r1 r2 r3 p => ?_⟩
    · rw [sem] at h
      split at h
      · unfold pureF at h
        split at h
        · exact absurd rfl h
        · rename_i ws ha
          rw [← lenA ha]
          refine lenR ws [] fun e => ?_
          rw [e] at h
          exact h rfl
      · exact lenR ps S h
    · -- the callee's view
      have view : ∃ (Fc Mc : List Addr) (Sc : Sto) (ws : List PV), Rel Z Fc Mc Sc H ∧ RVs Z Fc Mc H ws vs ∧ Post Z E Fc (R1 Z Fc) Mc H (runF (ctxOf P0 (evF P0 n)) d ws Sc) Q W := by
        rw [sem] at p
        split at p
        · obtain ⟨Fc, ws, a1, a2, a3⟩ := pure_spec r2 r3 p
          exact ⟨Fc, [], [], ws, a1, a2, a3⟩
        · exact ⟨F, M, S, ps, r2, r3, p⟩
      obtain ⟨Fc, Mc, Sc, ws, a1, a2, a3⟩ := view
      obtain ⟨b1, b2⟩ := body_post a3
      obtain ⟨oc, od, dV, kV, doc, pm, an, cdv, ct, osl, rfl, lk, hcd, _, _⟩ := FD.ex
      have hst := pl.st
      have hk : (n + 1) * st = ((n + 1) * st - 1) + 1 := by
        have : 1 ≤ (n + 1) * st := Nat.le_trans hst (Nat.le_mul_of_pos_left _ (Nat.succ_pos n))
        omega
      have hk2 : n * st ≤ (n + 1) * st - 1 := by
        rw [Nat.succ_mul]
        omega
      rw [hk] at hr
      have hlen : vs.length = D.pn.length := by rw [← a2.len, b1, c2]
      refine LamX.run_ofS (CX := L2.CX P wo) (N := D.N) lk hcd (scopeB_ok c1) hr e0 hb r1 hlen fun hr' => ?_
      have S0 := scopeB_ok c1
      have hs : Hs L Z (ctxOf P0 (evF P0 n)) E w (n * st) D.N errs D.wf D.scope (cxOf (L2.CX P wo) P wo Z.K mg base D.N D.name D.scope f cdv A outer s H W) := by
        refine ⟨⟨rfl, rfl, S0.nd, rfl, rfl, hg, hr'.mono hk2, fun j x pn hj => ?_, pl.gls, pl.bts, fun hwf => ru.wd n D hm hwf ih f cdv A outer s H W hg hr' ⟨_, _, _, _, lk, rfl⟩ hcd h1⟩, L2.passes_of rfl, fun _ => rfl, ru.rs n D hm f cdv A outer s H W hr'⟩
        rw [pl.fns, List.getElem?_map] at hj
        obtain ⟨D2, e1, e2⟩ := Option.map_eq_some_iff.mp hj
        cases e2
        obtain ⟨f2, fd2, g1, g2, g3, g4, g5⟩ := ih j D2 e1
        refine ⟨f2, fd2, g1, g2, fun s us k l => ?_, fun hk => g4 (of_decide_eq_true hk), g5⟩
        have b := g3 s us k (by rw [List.append_nil]; exact l)
        rwa [List.append_nil] at b
      refine ⟨_, sSs d.body hs c4, Fc, Mc, Sc, _, W, ⟨L2.takes_of rfl rfl rfl rfl, a1, start_sl a2 b1 c3⟩, b2⟩
end
end Ev

set_option Elab.async false
set_option linter.all false
set_option maxRecDepth 100000
set_option maxHeartbeats 1000000
/-! an own exception whose __init__ says super().__init__(text); self.f = f -/
namespace Ev
open PySem PySem.Spec PyProof.Rows L2
abbrev suEnv (qual : Str) (scope : Scope) (L f cda cc : Addr) : Env := PySem.W.ksEnv qual scope L f (.ref cda) cc
/-- the context of such an __init__ -/
def suCx (CX : CXT) (P : Program) (w : World) (K : PySem.W.Frag) (mg : Str → Option Value) (base : Heap) (N : List Str) (qual : Str) (scope : Scope) (f cda cc : Addr) (A : Around) (outer : List Env) (s : Shared) (H : Hp) (E : XK) : Cx where
  prog := P
  w := w
  K := K
  mg := mg
  base := base
  A := A.deeper (suEnv qual scope s.heap.objs.size f cda cc)
  N := N
  s_0 := s
  H_0 := H
  env := suEnv qual scope s.heap.objs.size f cda cc
  outer := outer
  stack := suEnv qual scope s.heap.objs.size f cda cc :: outer
  ex := []
  calm := true
  fn := fun _ => false
  pn := []
  xe := fun e s' => wpAny (model P w) (A.deeper (suEnv qual scope s.heap.objs.size f cda cc)) (leaving (suEnv qual scope s.heap.objs.size f cda cc) e) (fun _ s'' => CX outer H s E e s'') (fun e' s'' => CX outer H s E e' s'') s'
def suNames (fld : Str) : List (Str × NameKind) := [("self", .local), ("text", .local), (fld, .local), ("__class__", .free), ("super", .globalImplicit)]
/-- the names of such an __init__: three parameters, __class__, super -/
def suScope (fld : Str) (sc : Scope) : Bool :=
  decide (sc.kind = .function) && !sc.isCoroutine && !sc.isGenerator && decide (sc.names = suNames fld) && decide (fld ≠ ("self" : Str)) && decide (fld ≠ ("text" : Str)) && decide (fld ≠ ("__class__" : Str)) && decide (fld ≠ ("super" : Str)) && !(fld == ("__debug__" : Str)) && !(fld == ("__classdict__" : Str))
structure SuS (fld : Str) (sc : Scope) : Prop where
  kind : sc.kind = .function
  co : sc.isCoroutine = false
  gen : sc.isGenerator = false
  names : sc.names = suNames fld
  n1 : fld ≠ ("self" : Str)
  n2 : fld ≠ ("text" : Str)
  n3 : fld ≠ ("__class__" : Str)
  n4 : fld ≠ ("super" : Str)
  n5 : (fld == ("__debug__" : Str)) = false
  n6 : (fld == ("__classdict__" : Str)) = false
theorem suScope_ok {fld : Str} {sc : Scope} (h : suScope fld sc = true) : SuS fld sc := by
  unfold suScope at h
  simp only [Bool.and_eq_true, decide_eq_true_eq, Bool.not_eq_true'] at h
  obtain ⟨⟨⟨⟨⟨⟨⟨⟨⟨h1, h2⟩, h3⟩, h4⟩, h5⟩, h6⟩, h7⟩, h8⟩, h9⟩, h10⟩ := h
  exact ⟨h1, h2, h3, h4, h5, h6, h7, h8, h9, h10⟩
section
variable {fld : Str} {sc : Scope} (S : SuS fld sc)
include S
theorem SuS.self : sc.names.lookup ("self" : Str) = some .local := by rw [S.names]; rfl
theorem SuS.text : sc.names.lookup ("text" : Str) = some .local := by rw [S.names]; rfl
theorem SuS.at_ : sc.names.lookup fld = some .local := by
  rw [S.names]
  unfold suNames
  have e1 : (fld == ("self" : Str)) = false := beq_eq_false_iff_ne.mpr S.n1
  have e2 : (fld == ("text" : Str)) = false := beq_eq_false_iff_ne.mpr S.n2
  simp [List.lookup, e1, e2]
theorem SuS.cls : sc.names.lookup ("__class__" : Str) = some .free := by
  rw [S.names]
  have e1 : (("__class__" : Str) == fld) = false := beq_eq_false_iff_ne.mpr (Ne.symm S.n3)
  show (match ("__class__" : Str) == fld with | true => some NameKind.local | false => some NameKind.free) = _
  rw [e1]
theorem SuS.sup : sc.names.lookup ("super" : Str) = some .globalImplicit := by
  rw [S.names]
  have e1 : (("super" : Str) == fld) = false := beq_eq_false_iff_ne.mpr (Ne.symm S.n4)
  show (match ("super" : Str) == fld with | true => some NameKind.local | false => some NameKind.globalImplicit) = _
  rw [e1]
theorem SuS.nocell : ∀ y ∈ sc.names, y.2 ≠ .cell := by
  rw [S.names]
  unfold suNames
  intro y hy
  simp only [List.mem_cons, List.not_mem_nil, or_false] at hy
  rcases hy with rfl | rfl | rfl | rfl | rfl <;> exact fun z => nomatch z
end
theorem suN {fld : Str} {sc : Scope} (S : SuS fld sc) : (["self", "text", fld] : List Str).Nodup := by
  simp only [List.nodup_cons, List.mem_cons, List.not_mem_nil, or_false, not_or, List.nodup_nil, and_true, not_false_eq_true]
  exact ⟨⟨by decide, Ne.symm S.n1⟩, Ne.symm S.n2⟩
/-- what the written part says of the class C -/
structure SuC (K : PySem.W.Frag) (P : Program) (mg : Str → Option Value) (C fI cda cc : Addr) (fld qual : Str) (params : Arguments) (body : List Stmt) (scope : Scope) (fd : FuncData) : Prop where
  T : OexC K C
  fn : ∃ (oc : Value) (od : Option Addr) (dV kV doc pm : Value) (an : Option Addr) (ct : Value) (osl : Array (Option Value)), fd = PySem.W.ksFn "__init__" qual params body scope dV kV doc pm an (.ref cda) ct cc ∧ K.lookup fI = some ⟨oc, od, .func fd, osl⟩
  code : PySem.W.codeIn K (.ref cda) qual = true
  file : ∃ (ccl : Value) (cdd : Option Addr) (vs : Array Value) (ccs : Array (Option Value)) (file : Str) (tf : Tok), K.lookup cda = some ⟨ccl, cdd, .fields vs, ccs⟩ ∧ vs[2]? = some (.str file tf) ∧ ((P.main.file : Str) == file) = true
  cell : ∃ (cl : Value) (cld : Option Addr) (csl : Array (Option Value)), K.lookup cc = some ⟨cl, cld, .cell (some (.ref C)), csl⟩
  cls : (PySem.W.clsIn K C).isSome = true
  mro : PySem.W.mroIn K C (.ref C) = some true
  sup : mg "super" = none
  ini : PySem.W.ks_superIn K C C "__init__" = some (some (.builtin "ValueError.__init__"))
  sub : PySem.W.subIn K (.ref C) (.type "ValueError") = some true
  opq : PySem.W.nsIn K cStatics "thirdparty.any" = some none
  nof : PySem.W.findIn K (.ref C) fld = some none
  top : (P.main.scope.names.lookup ("super" : Str)).isSome = false
section
variable {P : Program} {w : World} {K : PySem.W.Frag} {mg : Str → Option Value} {base : Heap} {C fI cda cc : Addr} {fld qual : Str} {params : Arguments} {body : List Stmt} {scope : Scope} {fd : FuncData}
theorem su_start {CX : CXT} {A : Around} {outer : List Env} {s : Shared} {H : Hp} {E : XK} {us : List Value} {vs : List V} {h₁ : Heap} {tk : Nat} (c : SuC K P mg C fI cda cc fld qual params body scope fd) (S : SuS fld scope) (hd : A.handled = none) (e0 : Env0 P w K mg base A outer s H) (hl : vs.length = 3) (r : Vals vs us)
    (hns : h₁.Ns s.heap.objs.size fun y => ((["self", "text", fld] : List Str).zip us).reverse.lookup y) (kp : ∀ b o, s.heap.get? b = some o → h₁.get? b = some o) :
    Inv (suCx CX P w K mg base ["self", "text", fld] qual scope fI cda cc A outer s H E) [] (vs.map some) H { s with heap := h₁, toks := tk } := by
  obtain ⟨cl, cld, csl, hcell⟩ := c.cell
  have hcc : base.get? cc = some ⟨cl, cld, .cell (some (.ref C)), csl⟩ := e0.mod.kin _ _ hcell
  have hc1 := e0.bs cc _ hcc
  have cm : ∀ {y x : _}, ([(("__class__" : Str), cc)] : List (Str × Addr)).lookup y = some x → y = "__class__" ∧ x = cc := fun {y x} e => by
    have hm := PySem.mem_of_lookup e
    simp only [List.mem_cons, List.not_mem_nil, or_false, Prod.mk.injEq] at hm
    exact hm
  have noA : ∀ b : Addr, b ∉ (suCx CX P w K mg base ["self", "text", fld] qual scope fI cda cc A outer s H E).ex := fun b z => absurd (show b ∈ ([] : List Addr) from z) (by simp)
  refine ⟨⟨e0.mod, S.kind, rfl, rfl, Nat.le_refl _, fun y z c e1 e2 => (cm e1).1.trans (cm e2).1.symm, fun y hy => ?_, fun y c z _ => ?_, fun _ => hd, Around.frames_deeper e0.frames, .inr ⟨rfl, rfl⟩, fun b z => absurd z (noA b), e0.bs, e0.bsz, fun b _ _ => noA b,
      fun b z => absurd z (noA b), e0.funs, e0.frf⟩,
    rfl, e0.bare, Un.kept kp, ⟨_, hns, fun i y v e1 e2 e3 => ?_⟩, fun y c e => ?_, e0.hok.fresh (Nat.le_refl _), fun y c e => ?_, fun q hq => absurd (show q ∈ ([] : List (Addr × Obj)) ++ [] from hq) (by simp), e0.hok.kept kp, by rw [List.length_map]; exact hl⟩
  · have hy : scope.names.lookup y = some .cell ∨ scope.names.lookup y = some .free := hy
    have hm : ∃ k, (y, k) ∈ scope.names ∧ (k = .cell ∨ k = .free) := by
      rcases hy with hy | hy
      · exact ⟨_, PySem.mem_of_lookup hy, .inl rfl⟩
      · exact ⟨_, PySem.mem_of_lookup hy, .inr rfl⟩
    obtain ⟨k, hm, hk⟩ := hm
    rw [S.names] at hm
    unfold suNames at hm
    simp only [List.mem_cons, List.not_mem_nil, or_false, Prod.mk.injEq] at hm
    rcases hm with ⟨rfl, rfl⟩ | ⟨rfl, rfl⟩ | ⟨rfl, rfl⟩ | ⟨rfl, rfl⟩ | ⟨rfl, rfl⟩ <;> first | exact ⟨cc, rfl⟩ | (rcases hk with hk | hk <;> cases hk)
  · exact absurd (show false = true from z) Bool.false_ne_true
  · rw [List.getElem?_map] at e2
    obtain ⟨v', e4, e5⟩ := Option.map_eq_some_iff.mp e2
    cases e5
    obtain ⟨u, e6, rv⟩ := r.get e4
    have hul : us.length = 3 := by rw [← r.length]; exact hl
    match us, hul with
    | [u0, u1, u2], _ =>
      have f1 : (fld == ("text" : Str)) = false := beq_eq_false_iff_ne.mpr S.n2
      have f2 : (fld == ("self" : Str)) = false := beq_eq_false_iff_ne.mpr S.n1
      have g1 : (("text" : Str) == fld) = false := beq_eq_false_iff_ne.mpr (Ne.symm S.n2)
      have g2 : (("self" : Str) == fld) = false := beq_eq_false_iff_ne.mpr (Ne.symm S.n1)
      match i, e1, e6 with
      | 0, e1, e6 =>
        cases e1; cases e6
        refine ⟨_, rv, .inl ⟨S.self, ?_⟩⟩
        show (match ("self" : Str) == fld with | true => some u2 | false => some _) = _
        rw [g2]
      | 1, e1, e6 =>
        cases e1; cases e6
        refine ⟨_, rv, .inl ⟨S.text, ?_⟩⟩
        show (match ("text" : Str) == fld with | true => some u2 | false => some _) = _
        rw [g1]
      | 2, e1, e6 =>
        cases e1; cases e6
        refine ⟨_, rv, .inl ⟨S.at_, ?_⟩⟩
        show (match fld == fld with | true => some _ | false => _) = _
        rw [beq_self_eq_true]
      | i + 3, e1, e6 => exact nomatch e1
  · obtain ⟨_, rfl⟩ := cm e
    exact ⟨_, _, kp _ _ hc1.1, rfl⟩
  · obtain ⟨_, rfl⟩ := cm e
    exact hc1.2

/-- super().__init__(text), then self.fld = fld -/
def suBody (fld : Str) (p0 p1 ap tp cp ep sp fp lp asp : Pos) : List Stmt :=
  [.Expr (.Call (.Attribute (.Call (.Name "super" p0) [] [] p1) "__init__" ap) [.Name "text" tp] [] cp) ep, .Assign [.Attribute (.Name "self" sp) fld fp] (.Name fld lp) asp]
/-- what it does -/
def suSp (C : Addr) (fld : Str) : Sp := fun vs H Q _ => ∃ (a : Addr) (x y : V), vs = [.ref a, x, y] ∧ H a = some (exo a C none) ∧ ∀ dx, H dx = none → dx ≠ a → Q .non (upd (upd H dx (exd dx [(fld, y)])) a (exo a C (some dx)))
/-- the wrapper of ValueError.__init__ called -/
theorem call_mw {A : Around} {E : Value → Shared → Prop} {h : Heap} {g : Array GenState} {d : Drawn} {t : Nat} {os : OsState} {u e t0 : Addr} {rest : List Value} {Q : Value → Shared → Prop} {nm q : Str} {N : Addr} {bs bm : List Value} {hdct : Bool} {sn : List Str} {sub : List Value} {ab : Bool} {col : Option Bool} {dd : Option Addr} {k0 k1 k2 k3 k5 : Option Value}
    (hC : h.get? C = some (excClassObj nm q C N bs bm hdct sn sub ab col dd k0 k1 k2 k3 k5 "ValueError.__new__")) (he : h.get? e = some ({ cls := .ref C, dict := none, data := .fields #[.ref t0, .none, .none, .none, .bool false, .none] } : Obj)) (hu : h.get? u = some (PySem.W.kxs_mw "ValueError.__init__" e)) (hrest : rest.length ≤ sizeLine)
    (hq : ∀ h' t1, (∀ b o, b ≠ e → h.get? b = some o → h'.get? b = some o) → h'.get? e = some ({ cls := .ref C, dict := none, data := .fields #[.ref t1, .none, .none, .none, .bool false, .none] } : Obj) → Q .none ⟨h', g, d, t, os⟩) :
    wpAny (model P w) A (call (.ref u) rest) Q E ⟨h, g, d, t, os⟩ := by
  refine wpAny_call (codeAny_of_tree ?_)
  show wpAny _ A.in1 (callAny (.ref u) ⟨rest, []⟩) _ _ _
  simp only [callAny]
  refine wpAny_bind (wpAny_load hu ?_)
  simp only [PySem.W.kxs_mw, show (Value.type "method-wrapper" == Value.type "method" || Value.type "method-wrapper" == Value.type "builtin_function_or_method" || Value.type "method-wrapper" == Value.type "method-wrapper") = true by decide, if_true]
  refine PySem.W.KFB.if_so (by decide) ?_
  refine wpAny_bind (PySem.W.check_bound_init PySem.F.excBase_ValueError.toExcCallFacts hC he rfl ?_)
  refine wpAny_bind (wpAny_pure (wpAny_pure ?_))
  refine ⟨PySem.plainId_quiet PySem.F.excBase_ValueError.init.plain _, codeAny_builtin PySem.F.excBase_ValueError.initEntry ?_⟩
  exact PySem.W.exc_init_tree (cls := .ref C) (t0 := t0) (dv := none) (c2 := .none) (c3 := .none) (b4 := .bool false) he hrest fun h' k e' _ => hq h' _ k e'
theorem su_call {env : Env} {o : Expr} {name x : Str} {ap tp cp : Pos} (hline : (ap.endLine == cp.line) = true) : ∃ pl : Sem Bool, eval (.Call (.Attribute o name ap) [.Name x tp] [] cp) env = (do
      let ov ← attributeBase o name env (eval o env)
      standAt ap.atName
      let (f, first) ← holding [ov] (getMethod ov name pl)
      callWith cp f first (backTo cp (starEach [.Name x tp] env)) []) := by
  have hform : methodCallForm (([.Name x tp] : List Expr).length + ([] : List Keyword).length) (backTo cp (starEach [.Name x tp] env)) (backToKw cp (keywordEach [] env)) = true := rfl
  have hpos : methodCallPos true o env ap cp = pure cp := by unfold methodCallPos; simp [hline]
  rw [arm_eval_Call]
  unfold methodCall
  rw [hform, hpos]
  exact ⟨_, rfl⟩
theorem su_ok {CX : CXT} {k : Nat} {p0 p1 ap tp cp ep sp fp lp asp : Pos} {ar0 ar1 ar2 : Arg} {dl : List Expr} (c : SuC K P mg C fI cda cc fld qual params (suBody fld p0 p1 ap tp cp ep sp fp lp asp) scope fd) (S : SuS fld scope)
    (hp : params = ⟨[], [ar0, ar1, ar2], none, [], [], none, dl⟩) (ha0 : ar0.arg = "self") (hline : (ap.endLine == cp.line) = true) : FnOk P w K mg base CX (k + 1) fI fd ["self", "text", fld] (suSp C fld) := by
  refine ⟨fun vs H Q E h => ?_, fun A outer s H args us vs Q E hr e0 hb r h => ?_⟩
  · obtain ⟨a, x, y, rfl, _⟩ := h
    rfl
  · obtain ⟨a, x, y, rfl, ha, hq⟩ := h
    obtain ⟨oc, od, dV, kV, doc, pm, an, ct, osl, rfl, lk⟩ := c.fn
    obtain ⟨ccl, cdd, cvs, ccs, file, tf, lcd, hvs, hfile⟩ := c.file
    obtain ⟨cl, cld, csl, hcell⟩ := c.cell
    obtain ⟨nm, q, NN, bs, bm, sn, sub, ab, col, dd, k0, k1, k2, k3, k5, hC, hbm⟩ := c.T.cls
    obtain ⟨cd, hcd⟩ := Option.isSome_iff_exists.mp c.cls
    have KX : K.In s.heap := e0.mod.kin.keeps fun b o e => (e0.bs b o e).1
    have lim : s.heap.NoLimit := e0.mod.nolimit.keeps fun b o e => (e0.bs b o e).1
    have hul : us.length = 3 := by
      have := r.length
      simpa using this.symm
    have hr' := hr.deeper (suEnv qual scope s.heap.objs.size fI cda cc)
    match us, hul, r, hb with
    | [u0, u1, u2], _, r, hb =>
    have hloc : ∀ z ∈ (["self", "text", fld] : List Str).zip [u0, u1, u2], scope.names.lookup z.1 = some .local := fun z hz => by
      have hz2 : z = (("self" : Str), u0) ∨ z = (("text" : Str), u1) ∨ z = (fld, u2) := by simpa using hz
      rcases hz2 with rfl | rfl | rfl
      · exact S.self
      · exact S.text
      · exact S.at_
    refine ks_codeAny_call_defAt (fd := PySem.W.ksFn "__init__" qual params (suBody fld p0 p1 ap tp cp ep sp fp lp asp) scope dV kV doc pm an (.ref cda) ct cc) (body := suBody fld p0 p1 ap tp cp ep sp fp lp asp) (binds := (["self", "text", fld] : List Str).zip [u0, u1, u2])
      hr.depth (KX _ _ lk) rfl lim (PySem.W.codeRec_of KX c.code) rfl hb S.nocell hloc (fun h₁ hns kp => ?_) S.co S.gen S.kind
    have I := su_start (CX := CX) (E := E) (tk := s.toks + ((["self", "text", fld] : List Str).zip [u0, u1, u2]).length) c S hr.hd e0 rfl r hns kp
    generalize htk : s.toks + ((["self", "text", fld] : List Str).zip [u0, u1, u2]).length = tk at I ⊢
    show _root_.PySem.wpAt (model P w) (A.deeper (suEnv qual scope s.heap.objs.size fI cda cc)) (.func (suBody fld p0 p1 ap tp cp ep sp fp lp asp) (suEnv qual scope s.heap.objs.size fI cda cc)) (execs (suBody fld p0 p1 ap tp cp ep sp fp lp asp) (suEnv qual scope s.heap.objs.size fI cda cc)) _ _ _
    have X1 : K.In h₁ := KX.keeps kp
    obtain ⟨t1, ho⟩ := exo_at e0.hok ha
    have ho1 := kp _ _ ho
    have hu0 : u0 = Value.ref a := by
      cases r with
      | cons r1 _ => exact r1
    obtain ⟨mb, g1, g2⟩ := I.mod.blt
    have gg : (("text" : Str) == fld) = false := beq_eq_false_iff_ne.mpr (Ne.symm S.n2)
    have gs : (("self" : Str) == fld) = false := beq_eq_false_iff_ne.mpr (Ne.symm S.n1)
    have mself : (fun y => ((["self", "text", fld] : List Str).zip [u0, u1, u2]).reverse.lookup y) "self" = some u0 := by
      show (match ("self" : Str) == fld with | true => some u2 | false => some _) = _
      rw [gs]
    have mtext : (fun y => ((["self", "text", fld] : List Str).zip [u0, u1, u2]).reverse.lookup y) "text" = some u1 := by
      show (match ("text" : Str) == fld with | true => some u2 | false => some _) = _
      rw [gg]
    obtain ⟨pl, hcall⟩ := su_call (env := suEnv qual scope s.heap.objs.size fI cda cc) (o := .Call (.Name "super" p0) [] [] p1) (name := "__init__") (x := "text") (tp := tp) hline
    refine ks_wpAt_execs_cons (ks_wpAt_Expr_any (ks_wpAt_MethodCall (pl := pl) ?_ hcall) I.quiet rfl)
    refine ks_wpAt_super_base S.sup S.cls (by decide) rfl (kp _ _ (KX _ _ lk)) rfl (ar := ar0) (by rw [hp]; rfl) rfl (kp _ _ (KX _ _ lcd)) rfl hvs hfile c.top ?_
    refine PySem.W.ks_loadName_global S.kind S.sup (Calls.loadGlobal_builtin (I.mod.glob.keeps I.bk) c.sup (g1.keeps I.bk) ((g2 _ (by decide)).trans (by decide +kernel)) ⟨rfl, ?_⟩)
    refine wpAny_loadName_free S.kind S.cls rfl ⟨_, X1 _ _ hcell, rfl⟩ ?_
    rw [ha0]
    refine wpAny_loadName_local S.kind S.self hns mself ?_
    have hC1 := X1 _ _ hC
    refine ks_wpAny_isType_cls hC1 rfl ⟨rfl, ?_⟩
    rw [hu0]
    refine ks_wpAny_call_super hC1 rfl ho1 rfl (fun c z => nomatch z) (PySem.W.looks_mroIn X1 c.mro) (fun h2 hso k2 => ?_)
    have X2 : K.In h2 := X1.keeps k2
    have ho2 := k2 _ _ ho1
    have ini := c.ini
    unfold PySem.W.ks_superIn at ini
    rw [hcd] at ini
    have IA : PySem.W.InstAt h2 a { cls := .ref C, dict := none, data := .fields #[.ref t1, .none, .none, .none, .bool false, .none] } C none := ⟨ho2, rfl, rfl, trivial⟩
    refine PySem.W.kxs_getMethod PySem.W.kxs_ValueError hso (PySem.W.looks_opaque X2 c.opq) (l₀ := cd.mro) (fun A Q E s k q => wpAny_bind ((PySem.W.looks_clsIn X2 hcd) A _ E s k (wpAny_pure q))) rfl X2 ini (IA.type.andThen (PySem.W.looks_subIn X2 c.sub)) (PySem.W.ks_ne X2 IA hcd) (by decide) ?_
    have k3 : ∀ b o, h2.get? b = some o → (h2.push (PySem.W.kxs_mw "ValueError.__init__" a)).get? b = some o := fun b o e => Heap.get?_push_of_some _ e
    have hu3 : (h2.push (PySem.W.kxs_mw "ValueError.__init__" a)).get? h2.objs.size = some (PySem.W.kxs_mw "ValueError.__init__" a) := Heap.get?_push_size _ rfl
    refine PySem.W.kxs_callWith (i := "ValueError.__init__") (x := a) rfl (Calls.evalArgs_plain (Calls.spliced_cons (ESX.ldL (hns.keeps fun b o e => k3 b o (k2 b o e)) mtext (Calls.spliced_nil ⟨hu3, ?_⟩) S.kind S.text (by decide))))
    refine call_mw (X2.keeps k3 _ _ hC) (k3 _ _ ho2) hu3 (show 1 ≤ sizeLine by decide) fun h4 t4 k4 he4 => ?_
    have I3 : Inv (suCx CX P w K mg base ["self", "text", fld] qual scope fI cda cc A outer s H E) [] ([V.ref a, x, y].map some) H { s with heap := h2.push (PySem.W.kxs_mw "ValueError.__init__" a), toks := tk + 1 } := I.kept (t' := tk + 1) fun b o e => k3 b o (k2 b o e)
    have J := I3.write (t' := tk + 1) (x := a) (e := a) (o := exo a C none) (by rw [ha]; exact True.intro) (.inl rfl) k4 ⟨_, he4⟩ (exo_ok he4)
    have eu : upd H a (exo a C none) = H := by
      funext b
      by_cases hb : b = a
      · rw [hb, upd_same, ha]
      · rw [upd_ne hb]
    rw [eu] at J
    have hps := pss_one (ps_ost (X := suCx CX P w K mg base ["self", "text", fld] qual scope fI cda cc A outer s H E) (f := fld) (p' := fp) (pos := asp) (pe_var (pos := sp) (i := 0) (x := "self") rfl (.inl S.self)) (pe_var (pos := lp) (i := 2) (x := fld) rfl (.inl S.at_) S.n5 S.n6))
    refine wpAt_of_wpAny (wpAny_mono (hps.run [] _ _ H { nx := fun _ H' => Q .non H', rt := Q } J ⟨y, rfl, .ref a, rfl, a, C, rfl, c.T, c.nof, .inl ⟨ha, hq⟩⟩) (fun fl s' hs => ?_) fun e s' hs => hs)
    cases fl with
    | ret u =>
      obtain ⟨v, σ', H', J', rv, q⟩ := hs
      exact ⟨v, H', J'.os, J'.bare, J'.base, J'.hok, rv, q⟩
    | next =>
      obtain ⟨σ', H', J', q⟩ := hs
      exact ⟨.non, H', J'.os, J'.bare, J'.base, J'.hok, rfl, q⟩
    | brk =>
      obtain ⟨_, _, _, q⟩ := hs
      exact False.elim q
    | cont =>
      obtain ⟨_, _, _, q⟩ := hs
      exact False.elim q
end
end Ev

set_option Elab.async false
set_option linter.all false
set_option maxRecDepth 100000
/-! raise X(text, f), X an own class that keeps f; raise X(text), X without own __init__ -/
namespace Ev
open PySem PySem.Spec PyProof.Rows L2
/-- exceptions by number: their classes, the field that they keep -/
def exIs (Z : Fx) (tab : List (Addr × Option Str)) : Ex := ⟨fun c fs cls d H => ∃ (C : Addr) (o : Option Str), tab[c]? = some (C, o) ∧ cls = .ref C ∧ match o with
  | none => fs = [] ∧ d = none
  | some fld => ∃ (dd : Addr) (p : PV) (y : V), d = some dd ∧ H dd = some (.xd [(fld, y)]) ∧ fs = [p] ∧ flat p = true ∧ ∀ F M, RV Z F M H p y⟩
/-- what is known of the class x of number c, that keeps fld -/
structure RsOk (P : Program) (w : World) (K : PySem.W.Frag) (mg : Str → Option Value) (base : Heap) (C : Addr) (fld : Str) (x : Str) : Prop where
  T : OexC K C
  at_ : mg x = some (.ref C)
  run : ∃ (fI : Addr) (fd : FuncData), PySem.W.findIn K (.ref C) "__init__" = some (some (.ref fI)) ∧ PySem.W.typeIn K (.ref fI) = some (.type "function") ∧ FnOk P w K mg base C8.CX0 1 fI fd ["self", "text", fld] (suSp C fld) ∧ Binds K fd ["self", "text", fld] []
section
variable {Z : Fx} {X : Cx} {F M : List Addr} {S : Sto} {H : Hp} {W : XK} {σp : Sl} {σ : L2.St} {tab : List (Addr × Option Str)}
theorem rs_fld {C0 : Ctx} {c : Nat} {C : Addr} {fld x : Str} {a : Expr} {as : List Expr} {g : Sl → Sto → Rs (List PV)} {p q pos : Pos} (hK : X.K = Z.K) (hc : X.calm = true) (hr : Room 2 X.A) (R : RsOk X.prog X.w X.K X.mg X.base C fld x) (ht : tab[c]? = some (C, some fld))
    (hmk : ∀ vs fs, C0.mkE c vs = some fs → ∃ y z, vs = [y, z] ∧ fs = [z] ∧ flat z = true) (hg : Gl X x) (hdb : (x == ("__debug__" : Str)) = false) (hs : (a :: as).all noStar = true) (ha : PA X (a :: as) (tA Z (exIs Z tab) X g)) :
    PS X (.Raise (some (.Call (.Name x p) (a :: as) [] q)) none pos) (tS Z (exIs Z tab) X fun σ S => (g σ S).bind fun vs S1 => match C0.mkE c vs with
      | some fs => .ex c fs S1
      | none => .bad) := by
  obtain ⟨fI, fd, iC, tI, F1, hb⟩ := R.run
  have hs2 : noStar a = true ∧ as.all noStar = true := by simpa using hs
  have mk := pmk_oex (X := X) (CX := C8.CX0) (p := p) (pos := q) (dvs := []) (ds := []) R.T iC tI F1 hr hb .nil (fun _ _ _ _ _ _ _ z => (show False from z).elim) hg R.at_ ha hdb (star_ok hs2.1) (plain_any hs2.2)
  refine ⟨fun pins s σ H D I ⟨F, M, S, σp, W, at_, p⟩ => ?_⟩
  refine (ps_raise (pos := pos) hc at_.tk mk).run pins s σ H D I ?_
  show tA Z (exIs Z tab) X g σ H _
  refine (at_.seq p).imp fun xs H1 ⟨vs, M1, S1, x1, a1, rv, p1⟩ => ?_
  have rv : RVs Z F M1 H1 vs xs := rv
  cases e : C0.mkE c vs with
  | none => rw [e] at p1; exact p1.elim
  | some fs =>
    rw [e] at p1
    obtain ⟨y, z, rfl, rfl, hfl⟩ := hmk vs fs e
    obtain ⟨u, v, rfl, ru, rz⟩ := rv.two
    refine ⟨by show 2 ≤ 1000; decide, fun b hb => ⟨b, u, v, rfl, upd_same, fun dx hdx hne => ?_⟩⟩
    rw [upd_ne hne] at hdx
    refine ⟨rfl, dx, [(fld, v)], upd_same, ?_, hdx, ?_⟩
    · rw [upd_ne hne, upd_same]
    · have eH : upd (del (upd (upd (upd H1 b (exo b C none)) dx (exd dx [(fld, v)])) b (exo b C (some dx))) b) dx (.xd [(fld, v)]) = upd H1 dx (.xd [(fld, v)]) := by
        funext e
        by_cases h1 : e = dx
        · rw [h1, upd_same, upd_same]
        · rw [upd_ne h1, upd_ne h1]
          by_cases h2 : e = b
          · rw [h2, del_same]
            exact hb.symm
          · rw [del_ne h2, upd_ne h2, upd_ne h1, upd_ne h2]
      rw [eH]
      obtain ⟨r2, x2⟩ := a1.r.fresh (o := .xd [(fld, v)]) hdx
      exact p1 M1 _ (.ref C) (some dx) x2 r2 ⟨C, some fld, ht, rfl, dx, z, v, rfl, upd_same, rfl, hfl, fun F' M' => RV.flat hfl (RV.mono a1.r x2 rz) F' M'⟩
end
end Ev

set_option Elab.async false
set_option linter.all false
set_option maxRecDepth 100000
/-! a caught exception that is kept behind the except suite -/
namespace Ev
open PySem PySem.Spec PyProof.Rows L2
/-- an exception that was caught: its class, its dict -/
def KeptE (cls : Value) (d : Option Addr) (a : Addr) : HO := .ext fun h => ∃ (oe : Obj) (vs : Array Value), h.get? a = some oe ∧ Zc cls d oe ∧ oe.data = .fields vs
theorem keptE_ok {P : Program} {w : World} {H : Hp} {h : Heap} {a : Addr} {cls : Value} {d : Option Addr} {oe : Obj} {vs : Array Value} (e : h.get? a = some oe) (z : Zc cls d oe) (v : oe.data = .fields vs) : ObjOk P w H h a (KeptE cls d a) :=
  ⟨⟨oe, vs, e, z, v⟩, ⟨oe, e⟩, fun h1 h2 ⟨oe, vs, a1, b, c⟩ st => ⟨oe, vs, st _ a1, b, c⟩⟩
theorem keptE_at {P : Program} {w : World} {H : Hp} {h : Heap} {a : Addr} {cls : Value} {d : Option Addr} (hok : HOk P w H h) (e : H a = some (KeptE cls d a)) : ∃ (oe : Obj) (vs : Array Value), h.get? a = some oe ∧ Zc cls d oe ∧ oe.data = .fields vs := (hok a _ e).1
section
variable {X : Cx} {pins : List (Addr × Obj)} {σ : L2.St} {H : Hp} {s : Shared} {a : Addr} {cls : Value} {d : Option Addr} {oe : Obj} {vs : Array Value}
/-- an object of ours that is pinned is tracked from now on -/
theorem Inv.track (I : Inv X ((a, oe) :: pins) σ H s) (z : Zc cls d oe) (v : oe.data = .fields vs) (h0 : X.s_0.heap.get? a = none) (hp : ∀ p ∈ X.pn ++ pins, p.1 ≠ a) : Inv X pins σ (upd H a (KeptE cls d a)) s := by
  obtain ⟨ha, hn, hL, hF, hc⟩ := I.pin (a, oe) (List.mem_append_right _ (List.mem_cons_self ..))
  have ne : ∀ {b : Addr} {o : HO}, H b = some o → b ≠ a := fun {b o} e => ne_of_none e hn
  have n0 : ∀ {b : Addr} {o : Obj}, X.s_0.heap.get? b = some o → b ≠ a := fun {b o} e q => by
    rw [q, h0] at e
    cases e
  refine ⟨I.ok, I.os, I.bare, ⟨I.base.keep, I.base.slot, fun b o e n hx => ?_, I.base.there, fun b xs e => ?_, fun b o u e => ?_, fun b ps e => ?_⟩, I.loc, I.cell, ?_, fun y c e => ?_, fun p hq => ?_, fun b u e => ?_, I.len⟩
  · rw [upd_ne (n0 e)]
    exact I.base.free b o e n hx
  · have q := I.base.tups b xs e
    rw [upd_ne (ne q)]
    exact q
  · have q := I.base.frzs b o u e
    rw [upd_ne (ne q)]
    exact q
  · obtain ⟨more, q⟩ := I.base.tbls b ps e
    exact ⟨more, by rw [upd_ne (ne q)]; exact q⟩
  · rw [upd_ne (Ne.symm hL)]
    exact I.free
  · have q : c ≠ a := fun q => by
      obtain ⟨w, o, e1, e2⟩ := I.cell y c e
      rw [q, ha] at e1
      cases e1
      exact hc _ e2
    rw [upd_ne q]
    exact I.freeC y c e
  · have hm : p ∈ X.pn ++ ((a, oe) :: pins) := by
      rcases List.mem_append.mp hq with h | h
      · exact List.mem_append_left _ h
      · exact List.mem_append_right _ (List.mem_cons_of_mem _ h)
    obtain ⟨e1, e2, e3, e4, e5⟩ := I.pin p hm
    exact ⟨e1, by rw [upd_ne (hp p hq)]; exact e2, e3, e4, e5⟩
  · by_cases hb : b = a
    · subst hb
      rw [upd_same] at e
      cases e
      exact keptE_ok ha z v
    · rw [upd_ne hb] at e
      exact (I.hok b u e).stay (fun c w _ q => q) (fun c q => by rw [upd_ne (ne q)]; exact q) fun c xs q => by rw [upd_ne (ne q)]; exact q
theorem Inv.unsuite2 {pn' : List (Addr × Obj)} {q : Addr × Obj} (I : Inv (X.suite a (q :: (X.pn ++ pins))) pn' σ H s) (ok : X.Ok) : Inv X (q :: pins) σ H s :=
  ⟨ok, I.os, I.bare, I.base, I.loc, I.cell, I.free, I.freeC, fun p hp => I.pin p (List.mem_append_left _ (by
    rcases List.mem_append.mp hp with h | h
    · exact List.mem_cons_of_mem _ (List.mem_append_left _ h)
    · rcases List.mem_cons.mp h with h | h
      · rw [h]; exact List.mem_cons_self ..
      · exact List.mem_cons_of_mem _ (List.mem_append_right _ h))), I.hok, I.len⟩
end
/-- what 'except x as n: suite' wishes of an exception of the body, where it is kept: slot i is n's -/
def wKeep (K : PySem.W.Frag) (c : Value) (i : Nat) (ts : Addr → TS) (Wout : WX) (D : Ends) : WX := fun cls d σ H =>
  ∃ b, PySem.W.exmOne K cls c = some b ∧ (b = true → ∀ a, H a = none → ts a { nx := fun σ' H' => H' a = none → D.nx (σ'.set i none) (upd H' a (KeptE cls d a)), rt := fun _ _ => False } (σ.set i (some (.ref a))) H) ∧ (b = false → Wout cls d σ H)
section
variable {X : Cx} {x n : Str} {c : Value} {i : Nat} {body suite : List Stmt} {b₀ : Stmt} {np pos pos' : Pos} {tb : WX → TS} {ts : Addr → TS} {Wout : WX}
theorem ps_try_keep (hs : X.stack = X.env :: X.outer) (hf : X.env.frame = some X.env.locals) (hex : X.ex = []) (hN : X.N.Nodup) (hi : X.N[i]? = some n) (hln : X.env.kindOf n = some .local) (hc : Names X x c) (tk : Takes X Wout)
    (hb : ∀ (W : WX) (pn : List (Addr × Obj)) (xe : Value → Shared → Prop), Takes (X.tr pn xe) W → PassesOwn (model X.prog X.w) X.A X.env xe → PSs (X.tr pn xe) body (tb W))
    (hsu : ∀ (a : Addr) (oe : Obj) (pn : List (Addr × Obj)), PSs (X.suite a ((a, oe) :: pn)) (b₀ :: suite) (ts a)) :
    PS X (.Try body [.ExceptHandler (some (.Name x np)) (some n) (b₀ :: suite) pos'] [] [] pos) (fun D σ H => tb (wKeep X.K c i ts Wout D) D σ H) := by
  refine ⟨fun pins s σ H D I h => ?_⟩
  have ok := I.ok
  have hfr : X.A.frames = some (X.env :: X.outer) := by rw [ok.frames, hs]
  have hloc : Loc X.env.scope n := .inl hln
  refine wpAny_Try_except ?_
  refine wpAny_mono ((hb (wKeep X.K c i ts Wout D) (X.pn ++ pins) (fun e s₁ => wpAny (model X.prog X.w) X.A (noteFrame e X.env) (fun _ s₂ => wpAny (model X.prog X.w) X.A (setFlight e none) (fun _ s₃ =>
    wpAny (model X.prog X.w) X.A (handleBy e X.env [.ExceptHandler (some (.Name x np)) (some n) (b₀ :: suite) pos']) (SP X pins D) X.xe s₃) X.xe s₂) X.xe s₁) (fun u s' xx => ?_) PassesOwn.looking).run [] s σ H D (I.toTry _) h) (fun f s1 hsp => ?_) (fun e s1 he => he)
  · obtain ⟨a, B, sI, pins', σ', H', cls, d, rfl, J', nb, up, sky, na, os, ag, b, hb1, hyes, hno⟩ := xx
    have J : Inv X pins σ' H' sI := J'.ofTry ok
    have sky' : Sky B (X.env :: X.outer) a (Zc cls d) X.env.locals s'.heap := by rw [← hs]; exact sky
    show wpAny (model X.prog X.w) X.A (noteFrame (.ref a) X.env) _ _ _
    refine Sky.land Zc.steady hfr hf sky' fun h3 fl3 up3 => ?_
    have J3 : Inv X pins σ' H' { s' with heap := h3 } := J.landed nb fl3.1 (up.trans up3) os ag
    obtain ⟨oe3, vs3, he3, hz3, hd3⟩ := fl3.there
    have notFr : ∀ {h : Heap} {o : Obj} {vs : Array Value}, h.FunFrames B (X.env :: X.outer) → h.get? a = some o → o.data = .fields vs → a ∉ frs (X.env :: X.outer) := fun {h o vs} ff e dd hm => by
      obtain ⟨_, o', e', hnf⟩ := ff.mem hm
      rw [e] at e'; cases e'
      exact hnf _ dd
    have nfr := notFr fl3.2.2.1 he3 hd3
    have nL : a ≠ X.env.locals := fun z => nfr (List.mem_filterMap.mpr ⟨X.env, List.mem_cons_self, by rw [hf, z]⟩)
    have nF : a ∉ X.fs := fun hm => by
      obtain ⟨e, he, q⟩ := List.mem_filterMap.mp hm
      exact nfr (List.mem_filterMap.mpr ⟨e, List.mem_cons_of_mem _ he, q⟩)
    have hBa : B.get? a = none := fl3.2.1
    have hnew : X.s_0.heap.get? a = none := by
      cases q : X.s_0.heap.get? a with
      | none => rfl
      | some o =>
        obtain ⟨o', e'⟩ := J.base.there a o q (by rw [hex]; simp)
        have := nb a o' e' (by rw [hs]; exact nfr)
        rw [hBa] at this
        cases this
    have hpn : ∀ p ∈ X.pn ++ pins, p.1 ≠ a := fun p hp z => by
      obtain ⟨e1, e2, e3, e4, e5⟩ := J.pin p hp
      rw [z] at e1
      have := nb a _ e1 (by rw [hs]; exact nfr)
      rw [hBa] at this
      cases this
    have S3 := J3.suite he3 hd3 na nL nF
    refine wpAny_handleBy_cons (codeAny_handlers_test ?_) (by intro q; cases q)
    have LT : PySem.W.Looks (model X.prog X.w) h3 (typeOf (.ref a)) cls := fun A Q E s k q => wpAny_typeOf_ref (k _ _ he3) (by rw [hz3.1]; exact q)
    have LM := PySem.W.exm_one (M := model X.prog X.w) (J3.kIn) LT hb1
    have test : ∀ {Q : Value → Shared → Prop} {E : Value → Shared → Prop}, Q c { s' with heap := h3 } → wpAny (model X.prog X.w) (X.A.mark (some (.ref a))) (eval (.Name x np) X.env) Q E { s' with heap := h3 } := fun {Q E} q => by
      obtain ⟨hg, hdbg, hm | ⟨hm, hv, hnn⟩⟩ := hc
      · exact ld_glob (X := X.suite a ((a, oe3) :: (X.pn ++ pins))) S3 hg hm q hdbg
      · exact ld_blt (X := X.suite a ((a, oe3) :: (X.pn ++ pins))) S3 hg hm hv q hnn hdbg
    refine test (LM.here ?_)
    cases b with
    | true =>
      refine codeAny_handlers_suite_as ?_
      refine HandSPX.lands_againZ fl3 fun h4 fl4 up4 => ?_
      have J4 : Inv X pins σ' H' { s' with heap := h4 } := J.landed nb fl4.1 ((up.trans up3).trans up4) os ag
      obtain ⟨oe4, vs4, he4, hz4, hd4⟩ := fl4.there
      have S4 := J4.suite he4 hd4 na nL nF
      refine store_ok (X := X.suite a ((a, oe4) :: (X.pn ++ pins))) (v := .ref a) S4 hN hi hloc rfl (fun s5 S5 => ?_) (.inr hln)
      refine wpAny_mono ((hsu a oe4 (X.pn ++ pins)).run [] s5 _ H' _ S5 (hyes rfl a na)) (fun f s6 hsp => ?_) (fun _ _ z => False.elim z)
      cases f with
      | next =>
        obtain ⟨σ6, H6, S6, q6⟩ := hsp
        have hn6 : H6 a = none := (S6.pin (a, oe4) (List.mem_append_left _ (List.mem_cons_self ..))).2.1
        exact gone_ok (Ev.Inv.unsuite2 S6 ok) hN hi hln fun s7 J7 => ⟨_, _, Ev.Inv.track J7 hz4 hd4 hnew hpn, q6 hn6⟩
      | brk =>
        obtain ⟨σ6, H6, S6, q6⟩ := hsp
        exact (show False from q6).elim
      | cont =>
        obtain ⟨σ6, H6, S6, q6⟩ := hsp
        exact (show False from q6).elim
      | ret u =>
        obtain ⟨v6, σ6, H6, S6, r6, q6⟩ := hsp
        exact (show False from q6).elim
    | false =>
      show wpAny _ X.A (handleBy (.ref a) X.env []) _ _ _
      refine wpAny_handleBy_nil ?_
      obtain ⟨k1, k2, k3, oe, vs, T, oT, ts', he, hz, hd, h1, hr⟩ := id fl3
      unfold PySem.passOn
      refine wpAny_bind (wpAny_field he hd h1 ?_)
      rw [if_neg (show ¬ ((Value.ref T == Value.none) = true) from by simp)]
      have fin : wpAny (model X.prog X.w) X.A (setFlight (.ref a) X.env.frame) (fun _ s4 => wpAny (model X.prog X.w) X.A (throw (.ref a) : Sem Flow) (SP X pins D) X.xe s4) X.xe { s' with heap := h3 } := by
        rw [hf]
        refine HandSPX.setFlight_upZ fl3 fun h4 hh4 up4 => wpAny_throw (tk _ _ ?_)
        exact ⟨a, B, sI, pins, σ', H', cls, d, rfl, J, nb, (up.trans up3).trans up4, .inr (.inr (by rw [hs]; exact hh4)), na, os, ag, hno rfl⟩
      first
        | exact wpAny_bind (wpAny_pure (wpAny_bind fin))
        | exact wpAny_bind fin
  · cases f with
    | next =>
      obtain ⟨σ', H', J', q⟩ := hsp
      exact wpAny_execs_nil ⟨σ', H', J'.ofTry ok, q⟩
    | brk =>
      obtain ⟨σ', H', J', q⟩ := hsp
      exact ⟨σ', H', J'.ofTry ok, q⟩
    | cont =>
      obtain ⟨σ', H', J', q⟩ := hsp
      exact ⟨σ', H', J'.ofTry ok, q⟩
    | ret u =>
      obtain ⟨v, σ', H', J', r, q⟩ := hsp
      exact ⟨v, σ', H', J'.ofTry ok, r, q⟩
end
/-- isinstance(e, c), e an exception that was kept -/
def rIsKept (K : PySem.W.Frag) : List V → Hp → VK → Prop := fun xs H Q => ∃ (a D C : Addr) (d : Option Addr) (b : Bool), xs = [.ref a, .ref C] ∧ H a = some (KeptE (.ref D) d a) ∧ (∀ dd, d = some dd → ∃ fs, H dd = some (.xd fs)) ∧ ExcC K D ∧ PySem.W.kitOne K (.ref D) (.ref C) = some b ∧ Q (.bl b) H
theorem call_isKept {X : Cx} : CallR X (.builtin "isinstance") (rIsKept X.K) := by
  intro pins s σ H xs us Q I r h
  obtain ⟨a, D, C, d, b, rfl, ha, hd, EC, e, q⟩ := h
  obtain ⟨oe, vs, h1, hz, h2⟩ := keptE_at I.hok ha
  have hcl : (PySem.W.clsIn X.K D).isSome = true := by
    obtain ⟨cd, hc, _⟩ := PySem.W.any_some EC.hd
    rw [hc]
    rfl
  cases r with
  | cons rx rr =>
    cases rr with
    | cons rt rr =>
      cases rr
      cases rx
      cases rt
      cases d with
      | none =>
        have J : PySem.W.InstAt s.heap a oe D none := ⟨h1, hz.1, by unfold PySem.W.notCls; rw [h2] <;> rfl, by rw [hz.2]; trivial⟩
        exact PySem.W.kia_one (PySem.W.kitx_exc hcl EC.hg EC.hk EC.hs EC.ha EC.hn EC.ht EC.hm) I.kIn J e (fun z => nomatch z) fun tk => ⟨.bl b, H, I.kept (t' := tk) fun _ _ z => z, rfl, q⟩
      | some dd =>
        obtain ⟨fs, hx⟩ := hd dd rfl
        obtain ⟨mA, ⟨od, es, ep, ho, _⟩, _⟩ := (show ObjOk X.prog X.w H s.heap dd (.xd fs) from I.hok dd _ hx)
        have J : PySem.W.InstAt s.heap a oe D (some od) := ⟨h1, hz.1, by unfold PySem.W.notCls; rw [h2] <;> rfl, by rw [hz.2]; exact ho⟩
        exact PySem.W.kia_one (PySem.W.kitx_exc hcl EC.hg EC.hk EC.hs EC.ha EC.hn EC.ht EC.hm) I.kIn J e (fun z => nomatch z) fun tk => ⟨.bl b, H, I.kept (t' := tk) fun _ _ z => z, rfl, q⟩
/-- e.f, e an exception that was kept -/
def tKf (K : PySem.W.Frag) (f : Str) (te : TE) : TE := fun σ H Q => te σ H fun x H1 => ∃ (a C dd : Addr) (fs : List (Str × V)) (v : V), x = .ref a ∧ H1 a = some (KeptE (.ref C) (some dd) a) ∧ XfC K C ∧ PySem.W.findIn K (.ref C) f = some none ∧ H1 dd = some (.xd fs) ∧ fs.lookup f = some v ∧ Q v H1
theorem pe_kf {X : Cx} {e : Expr} {te : TE} {pos : Pos} {n : Str} (he : PE X e te) (hb : attributeBase e n X.env (eval e X.env) = eval e X.env) : PE X (.Attribute e n pos) (tKf X.K n te) := by
  refine ⟨fun pins s σ H Q I h => ?_⟩
  refine attr_of hb (thn (he.run pins s σ H _ I h) fun u s1 hh => ?_)
  obtain ⟨x, H1, I1, rx, a, C, dd, fs, v, ex, ha, T, hno, ea, l, q⟩ := hh
  subst ex
  obtain rfl : u = Value.ref a := rx
  obtain ⟨oe, vs, h1, hz, hd⟩ := keptE_at I1.hok ha
  have hx : ObjOk X.prog X.w H1 s1.heap dd (.xd fs) := I1.hok dd _ ea
  obtain ⟨mA, hns, hr⟩ := hx
  obtain ⟨od, ho, hl⟩ := lookIn_ns hns
  obtain ⟨u, hu, ru⟩ := RelO.some_of (v := v) (o := mA n) (by rw [← l]; exact hr n)
  have J : PySem.W.InstAt s1.heap a oe C (some od) := ⟨h1, hz.1, by unfold PySem.W.notCls; rw [hd] <;> rfl, by rw [hz.2]; exact ho⟩
  exact HandSPX.exc_get I1.kIn J T.ga T.gg T.exC (PySem.W.findObj_own T.hdC hno rfl (by rw [hl, hu])) (handed_of ru) ⟨v, H1, I1.tok _, ru, q⟩
end Ev

set_option Elab.async false
set_option linter.all false
set_option maxRecDepth 100000
/-! lambdas made, called from deeper frames -/
namespace Ev
open PySem PySem.Spec PyProof.Rows L2
section
variable {X : Cx} {pins : List (Addr × Obj)} {σ : L2.St} {H : Hp} {s : Shared}
/-- the lambda is made: its code object is new, or found in the table; what is new was not there -/
theorem lam_make3 {T : List (Addr × Str)} {c P : Addr} {params : Arguments} {body : Expr} {scope : Scope} {pos : Pos} {E : Value → Shared → Prop} {Q : Value → Shared → Prop} (I : Inv X pins σ H s) (TB : LamX.TabB X.base X.mg c P) (hcode : X.env.code = .ref c)
    (hm : (P, X.env.qual ++ "<lambda>") ∈ T) (hu : ∀ p ∈ T, p.1 = P → p.2 = X.env.qual ++ "<lambda>") (hT : LamX.Tabs T H) (hdef : defaultsOf params X.env = ([], [])) (hfree : ∀ y ∈ scope.names, y.2 = .free → ∃ c, X.env.cells.lookup y.1 = some c)
    (h : ∀ (f c' : Addr) (pm ctv : Value) (H1 : Hp) (s' : Shared), Inv X pins σ H1 s' → LamX.ExtN H H1 → (∀ b, H1 b = none → H b = none) → LamX.Tabs T H1 →
      s'.heap.get? f = some (PySem.W.kla_obj "<lambda>" (X.env.qual ++ "<lambda>") params body scope (cloFrom X.env.cells scope.names []) pm c' ctv) → H1 f = none → f ∉ frs X.stack → H1 c' = some (LamX.CodeO c' (X.env.qual ++ "<lambda>")) → s.heap.get? f = none → Q (.ref f) s') :
    wpAny (model X.prog X.w) X.A (eval (.Lambda params body scope pos) X.env) Q E s := by
  obtain ⟨ps, hP, ht, ha⟩ := hT _ hm
  refine PySem.W.kla_eval hdef ?_
  have bP : s.heap.BuiltinsAt X.mg P := TB.bm.keeps I.bk
  have hP' : s.heap.get? P = some { cls := .none, data := .fields ps } := I.hok P _ hP
  have nofr : ∀ f, s.heap.objs.size ≤ f → f ∉ frs X.stack := fun f hf z => by
    rcases List.mem_cons.mp (I.stkSub _ z) with e | e
    · have h1 := I.lt
      rw [← e] at h1
      exact Nat.lt_irrefl _ (Nat.lt_of_lt_of_le h1 hf)
    · exact I.nofs hf e
  have nonew : ∀ f, s.heap.objs.size ≤ f → s.heap.get? f = none := fun f hf => by
    cases q : s.heap.get? f with
    | none => rfl
    | some o => exact absurd (Nat.lt_of_lt_of_le (Heap.lt_size q) hf) (Nat.lt_irrefl _)
  cases hc : codeAmong pos ps.toList with
  | none =>
    refine PySem.W.kla_makeFunction (mg := X.mg) (c := c) (P := P) (ps := ps) (closure_ok hfree) I.ok.glob (I.mod.glob.keeps I.bk) hcode (TB.code.keeps I.bk) hP' ht hc TB.gP bP fun c' ctv h' tk hx hge hlt hrec htb => ?_
    obtain ⟨c2, oc, vs, t, e2, hoc, hd, hv⟩ := hrec
    cases e2
    have hsz : s.heap.objs.size ≤ h'.objs.size := Nat.le_trans hge (Nat.le_of_lt hlt)
    have nC : H c' = none := I.hok.fresh hge
    have I1 := LamX.inv_table (t' := tk) (more := #[rawInt pos.line, rawInt pos.col, .ref c']) (h' := h'.push (PySem.W.kla_obj "<lambda>" (X.env.qual ++ "<lambda>") params body scope (cloFrom X.env.cells scope.names []) ((X.mg "__name__").getD .none) c' ctv)) I hP
      (fun b o hb e => Heap.get?_push_of_some _ (hx b o hb e)) (Heap.get?_push_of_some _ htb) hge ⟨oc, vs, t, Heap.get?_push_of_some _ hoc, hd, hv⟩
    have hE : LamX.ExtN H (upd (upd H P (.tbl (ps ++ #[rawInt pos.line, rawInt pos.col, .ref c']))) c' (LamX.CodeO c' (X.env.qual ++ "<lambda>"))) := fun b o e n => by
      rw [upd_ne (ne_of_none e nC), upd_ne (fun z => n ps (Option.some.inj (e.symm.trans (by rw [z]; exact hP))))]
      exact e
    have eL : (ps ++ #[rawInt pos.line, rawInt pos.col, .ref c']).toList = ps.toList ++ [rawInt pos.line, rawInt pos.col, .ref c'] := by simp
    refine h h'.objs.size c' ((X.mg "__name__").getD .none) ctv _ _ I1 hE (fun b hb => ?_) (fun p hp => ?_) (Heap.get?_push_size _ rfl) ?_ (nofr _ hsz) upd_same (nonew _ hsz)
    · by_cases h1 : b = c'
      · rw [h1]; exact nC
      · rw [upd_ne h1] at hb
        by_cases h2 : b = P
        · rw [h2, upd_same] at hb; cases hb
        · rw [upd_ne h2] at hb; exact hb
    · by_cases hb : p.1 = P
      · rw [hu p hp hb, hb]
        refine ⟨_, by rw [upd_ne (ne_of_none hP nC), upd_same], by rw [eL]; exact PySem.TriplesOk_snoc _ _ _ _ ht, fun p' cv hcv => ?_⟩
        rw [eL] at hcv
        rcases LamX.among_app _ ht hcv with z | z
        · obtain ⟨c0, e1, e2⟩ := ha p' cv z
          exact ⟨c0, e1, hE _ _ e2 LamX.codeO_ne⟩
        · exact ⟨c', z, upd_same⟩
      · obtain ⟨ps', a1, a2, a3⟩ := hT p hp
        refine ⟨ps', by rw [upd_ne (ne_of_none a1 nC), upd_ne hb]; exact a1, a2, fun p' cv hcv => ?_⟩
        obtain ⟨c0, e1, e2⟩ := a3 p' cv hcv
        exact ⟨c0, e1, hE _ _ e2 LamX.codeO_ne⟩
    · have n1 : h'.objs.size ≠ c' := Nat.ne_of_gt hlt
      have n2 : h'.objs.size ≠ P := Nat.ne_of_gt (Nat.lt_of_lt_of_le (Heap.lt_size hP') hsz)
      rw [upd_ne n1, upd_ne n2]
      exact I.hok.fresh hsz
  | some cv =>
    obtain ⟨c', e, hco⟩ := ha pos cv hc
    subst e
    refine PySem.W.kla_makeFunctionHit (mg := X.mg) (c := c) (P := P) (ps := ps) (closure_ok hfree) I.ok.glob (I.mod.glob.keeps I.bk) hcode (TB.code.keeps I.bk) hP' ht hc bP fun ctv h' tk hx hsz => ?_
    have I1 : Inv X pins σ H { s with heap := h'.push (PySem.W.kla_obj "<lambda>" (X.env.qual ++ "<lambda>") params body scope (cloFrom X.env.cells scope.names []) ((X.mg "__name__").getD .none) c' ctv), toks := tk } := I.kept fun b o e => Heap.get?_push_of_some _ (hx b o e)
    exact h h'.objs.size c' ((X.mg "__name__").getD .none) ctv H _ I1 (LamX.ExtN.refl H) (fun _ h => h) hT (Heap.get?_push_size _ rfl) (I.hok.fresh hsz) (nofr _ hsz) hco (nonew _ hsz)
/-- frames that were not there are of no moment -/
theorem un_shrink {fs fs' : List Addr} {H H' : Hp} {h h' : Heap} (u : Un fs' [] H H' h h') (hs : ∀ b ∈ fs', b ∈ fs ∨ h.get? b = none) : Un fs [] H H' h h' :=
  ⟨fun b o q n hb hx => u.keep b o q n (fun z => (hs b z).elim hb fun e => by rw [e] at q; cases q) hx, fun b o q n _ hx => u.any q n hx, u.free, u.there, u.tups, u.frzs, u.tbls⟩
/-- x(), x a lambda that was made in X at s, from the context Y -/
theorem pe_act2 {A : Around} {N : List Str} {s_0 : Shared} {H_0 : Hp} {env : Env} {outer stack : List Env} {ex : List Addr} {fn : Str → Bool} {calm : Bool} {pn : List (Addr × Obj)} {xe : Value → Shared → Prop} {f c' : Addr} {pm ctv : Value} {params : Arguments} {body : Expr} {scope : Scope} {k i : Nat} {a : Str} {W : WX} {tb : XK → TE} {p1 p2 : Pos}
    (I : Inv X pins σ H s) (L : LamX.LamS X.env.scope scope) (hf : s.heap.get? f = some (PySem.W.kla_obj "<lambda>" (X.env.qual ++ "<lambda>") params body scope (cloFrom X.env.cells scope.names []) pm c' ctv)) (hfn : H f = none) (hfr : f ∉ frs X.stack)
    (hbind : bindArgs (PySem.W.kla_fn "<lambda>" (X.env.qual ++ "<lambda>") params body scope (cloFrom X.env.cells scope.names []) pm (.ref c') ctv) ⟨[], []⟩ = pure [])
    (un : ∀ (pinsZ : List (Addr × Obj)) (σZ : L2.St) (HZ : Hp) (sZ : Shared), Inv (Cx.mk X.prog X.w X.K X.mg X.base A N s_0 H_0 env outer stack ex fn calm pn xe) pinsZ σZ HZ sZ → Un (frs X.stack) [] H HZ s.heap sZ.heap)
    (tk : Takes (Cx.mk X.prog X.w X.K X.mg X.base A N s_0 H_0 env outer stack ex fn calm pn xe) W) (hr : Room (k + 1) A)
    (hbody : ∀ (E : XK) (s' : Shared) (H' : Hp), Room k (A.deeper (LamX.lamEnv X scope s'.heap.objs.size f c')) → Un (frs X.stack) [] H H' s.heap s'.heap → PE (LamX.lamCx X A stack s' H' E scope f c') body (tb E))
    (hN : N[i]? = some a) (hv : Vis env.scope a) (hd : (a == ("__debug__" : Str)) = false := by decide) (hcd : (a == ("__classdict__" : Str)) = false := by decide) :
    PE (Cx.mk X.prog X.w X.K X.mg X.base A N s_0 H_0 env outer stack ex fn calm pn xe) (.Call (.Name a p1) [] [] p2)
      (fun σZ HZ Q => σZ[i]? = some (some (.ref f)) ∧ HZ c' = some (LamX.CodeO c' (X.env.qual ++ "<lambda>")) ∧ ∃ E : XK, (∀ cls d H', E cls d H' → W cls d σZ H') ∧ tb E σ HZ Q) := by
  refine ⟨fun pinsZ sZ σZ HZ Q IZ h => ?_⟩
  obtain ⟨hs, hc, E, hW, ht⟩ := h
  refine wpAny_Call_Name_kw (thn ((pe_var (X := Cx.mk X.prog X.w X.K X.mg X.base A N s_0 H_0 env outer stack ex fn calm pn xe) (pos := p1) (i := i) hN hv hd hcd).run pinsZ sZ σZ HZ (fun v H1 => v = .ref f ∧ H1 = HZ) IZ ⟨.ref f, hs, rfl, rfl⟩) fun u s1 ⟨v, H1, I1, r1, q1⟩ => ?_)
  obtain ⟨ev, eH⟩ := q1
  subst ev
  rw [eH] at I1
  obtain rfl : u = Value.ref f := r1
  have un1 : Un (frs X.stack) [] H HZ s.heap s1.heap := un _ _ _ _ I1
  have of1 : s1.heap.get? f = some (PySem.W.kla_obj "<lambda>" (X.env.qual ++ "<lambda>") params body scope (cloFrom X.env.cells scope.names []) pm c' ctv) := un1.keep f _ hf hfn hfr (fun z => nomatch (show f ∈ ([] : List Addr) from z))
  refine PySem.W.callWith_F0 ⟨_, _, _, _, of1⟩ ?_
  obtain ⟨⟨oc, vs, t, hoc, hdc, hvc⟩, _, _⟩ := I1.hok c' _ hc
  have rc : codeAny (model X.prog X.w) A (.call (.ref f) ⟨[], []⟩) (CR (L2.CX X.prog X.w) stack X.prog X.w HZ s1 Q E) s1 := by
    refine PySem.W.kla_callFunE hr.depth of1 rfl L.co L.gen rfl ⟨c', oc, vs, t, rfl, hoc, hdc, hvc⟩ ?_
    rw [hbind]
    refine wpAny_pure (wpAny_newFunctionEnv (fun y hy => (L.own y hy).2) (fun y hy => absurd hy (by simp)) (fun h₁ hns hsb => ⟨I1.nolimit.fresh _ hsb, ?_⟩) L.kind)
    show codeAny _ _ (.expr body (LamX.lamEnv X scope s1.heap.objs.size f c')) _ _
    have kp : ∀ b o, s1.heap.get? b = some o → h₁.get? b = some o := fun b o e => hsb.extBut b o (Nat.ne_of_lt (Heap.lt_size e)) (Heap.get?_push_of_some _ e)
    have J : Inv (LamX.lamCx X A stack s1 HZ E scope f c') [] σ HZ { s1 with heap := h₁, toks := s1.toks + ([] : List (Str × Value)).length } :=
      LamX.lam_start2 I L I1.env0 hr.hd un1 hns kp
    refine PySem.W.kla_codeExpr (wpAny_mono ((hbody E s1 HZ (hr.deeper _) un1).run [] _ _ HZ Q J ht) (fun v s' hq => ?_) fun e s' hq => hq)
    obtain ⟨w', H', J', rv, q⟩ := hq
    exact ⟨w', H', J'.os, J'.bare, J'.base, J'.hok, rv, q⟩
  refine wpAny_call (codeAny_mono rc fun r s' hq => ?_)
  cases r with
  | error e => exact tk e s' (XE.of_call I1 (fun cls d H' h => hW cls d H' h) hq)
  | ok fl =>
    cases fl with
    | ret u => exact I1.after hq
    | next => exact False.elim hq
    | brk => exact False.elim hq
    | cont => exact False.elim hq
end
end Ev

set_option Elab.async false
set_option linter.all false
set_option maxRecDepth 100000
/-! what catches an error, and tells its word: the texts -/
namespace Ev
open PySem PySem.Spec PyProof.Rows L2
/-- xs != [] -/
def rNe0 (K : PySem.W.Frag) : R2 := fun x y H Q => ∃ (a b : Addr) (xs : List V), x = .ref a ∧ y = .ref b ∧ SqL K H a xs ∧ SqL K H b [] ∧ Q (.bl (!xs.isEmpty)) H
theorem op_ne0 {X : Cx} (hu : X.A.units < cLine) : OpR X (compareOp .NotEq) (rNe0 X.K) := by
  intro pins s σ H x y v u Q I rx ry h
  obtain ⟨a, b, xs, rfl, rfl, ha, hb, q⟩ := h
  cases rx; cases ry
  obtain ⟨its, r1, p1, z1⟩ := I.list ha
  obtain ⟨its2, r2, p2, z2⟩ := I.list hb
  cases r2
  have hl := r1.length
  cases its with
  | nil =>
    cases r1
    have h := SeqAt.RcNeAt.lists (A := X.A) (s := s) (e := fun _ => true) p1.isList p2.isList rfl hu (fun j h1 => by simp at h1)
    exact h _ _ _ _ ⟨.bl false, H, I, rfl, q⟩
  | cons w ws =>
    cases xs with
    | nil => cases r1
    | cons z zs =>
      have h := SeqAt.RcNeAt.lists_lengths (A := X.A) (s := s) p1.isList p2.isList (by simp) hu
      exact h _ _ _ _ ⟨.bl true, H, I, rfl, q⟩
/-! ### _law_caught -/
section
variable {X : Cx} {we : Str} {CWE : Addr} {p1 p2 p3 p4 p5 p6 p7 p8 p9 p10 p11 p12 p13 p14 p15 p16 p17 p18 p19 p20 p21 p22 p23 p24 p25 p26 p27 p28 : Pos} {j1 j2 : Nat}
def caughtBody (we : Str) (p1 p2 p3 p4 p5 p6 p7 p8 p9 p10 p11 p12 p13 p14 p15 p16 p17 p18 p19 p20 p21 p22 p23 : Pos) (j1 j2 : Nat) : List Stmt :=
  [.Assign [.Name "found" p1] (.List [] p2) p3,
   .Try [.Expr (.Call (.Name "action" p4) [] [] p5) p6] [.ExceptHandler (some (.Name we p7)) (some "error") [.Expr (.Call (.Attribute (.Name "found" p8) "append" p9) [.Name "error" p10] [] p11) p12] p13] [] [] p14,
   .Return (some (.IfExp (.Compare (.Name "found" p15) [.NotEq] [.List [] p16] p17) (.Subscript (.Name "found" p18) (.Constant (.int 0) j1 p19) p20) (.Constant .none j2 p21) p22)) p23]
/-- the suite: found.append(error) -/
def tSuite (K : PySem.W.Frag) : Addr → TS := fun _ => tDrop (tBM K "list" rAppend (tVar 1) (tCons (tVar 2) tNil))
def tBack (K : PySem.W.Frag) : TS := tRet (tIf (tTest (tOp (rNe0 K) (tVar 1) (tLst tNil))) (tOp (rIxL K) (tVar 1) (tC (.int 0))) (tC .non))
def tCaught (K : PySem.W.Frag) (act : WX → TE) : TS := tSeq (tAsg (tLst tNil) (gName 1)) (tSeq (fun D σ H => tDrop (act (wKeep K (.ref CWE) 2 (tSuite K) (fun _ _ _ _ => False) D)) D σ H) (tBack K))
theorem ca_ok {act : WX → TE} (hs : X.stack = X.env :: X.outer) (hf : X.env.frame = some X.env.locals) (hex : X.ex = []) (hN : X.N = ([("action" : Str), "found", "error"] : List Str)) (hfn : ∀ x, X.fn x = true) (hu : X.A.units + 200 < cLine)
    (h1 : X.env.scope.names.lookup ("found" : Str) = some .local) (h2 : X.env.scope.names.lookup ("error" : Str) = some .local) (hc : Names X we (.ref CWE)) (hl : (p9.endLine == p11.line) = true)
    (hact : ∀ (W : WX) (pn : List (Addr × Obj)) (xe : Value → Shared → Prop), Takes (X.tr pn xe) W → PE (X.tr pn xe) (.Call (.Name "action" p4) [] [] p5) (act W)) :
    PSs X (caughtBody we p1 p2 p3 p4 p5 p6 p7 p8 p9 p10 p11 p12 p13 p14 p15 p16 p17 p18 p19 p20 p21 p22 p23 j1 j2) (tCaught (CWE := CWE) X.K act) := by
  have nd : X.N.Nodup := by rw [hN]; decide +kernel
  have i1 : X.N[1]? = some ("found" : Str) := by rw [hN]; rfl
  have i2 : X.N[2]? = some ("error" : Str) := by rw [hN]; rfl
  have vf : PE X (.Name "found" p15) (tVar 1) := pe_var i1 (.inl h1)
  refine pss_cons (ps_set nd i1 (.inl h1) (pe_lst pa_nil) rfl (.inl (hfn _))) (pss_cons (ps_try_keep (i := 2) (tb := fun W => tDrop (act W)) (ts := tSuite X.K) hs hf hex nd i2 h2 hc LamX.takes0 (fun W pn xe tk _ => ?_) (fun a oe pn => ?_)) (pss_one (ps_ret (pe_ifExp (pt_cmpR (op_ne0 (by omega)) vf (pe_lst pa_nil) rfl) (pe_ix ix_list (pe_var i1 (.inl h1)) pe_int fun _ _ => rfl) pe_non))))
  · exact ⟨fun pins s σ H D I q => (pss_one (ps_expr (hact W pn xe tk) rfl)).run pins s σ H D I q⟩
  · exact pss_one (ps_expr (pe_bm (X := X.suite a ((a, oe) :: pn)) PySem.F.plainAttrs_list PySem.F.slot_list_append PySem.F.type_list_append mt_append (pe_var i1 (.inl h1)) (pa_cons (pe_var i2 (.inl h2)) pa_nil rfl) rfl rfl hl rfl rfl) rfl)
end
/-! ### _law_word, as far as it is asked -/
section
variable {X : Cx}
/-- if isinstance(error, C): return (w, error.f) -/
def ifB (C w f : Str) : Stmt → Bool
  | .If (.Call (.Name i _) [.Name e _, .Name c _] [] _) [.Return (some (.Tuple [.Constant (.str w') _ _, .Attribute (.Name e' _) f' _] _ _)) _] [] _ => decide (i = "isinstance") && decide (e = "error") && decide (c = C) && decide (w' = w) && decide (e' = "error") && decide (f' = f)
  | _ => false
def tIfE (K : PySem.W.Frag) (C : Addr) (w f : Str) : TS := tIfS (tB (tCB (rIsKept K) (tCons (tVar 2) (tCons (tC (.ref C)) tNil)))) (tRet (tTup (tCons (tC (.str w)) (tCons (tKf K f (tVar 2)) tNil)))) tNext
theorem if_ok {C w f : Str} {a : Addr} {st : Stmt} (h : ifB C w f st = true) (i2 : X.N[2]? = some ("error" : Str)) (hv : Vis X.env.scope "error") (hg : Gl X "isinstance") (hm : X.mg "isinstance" = none) (hgC : Gl X C) (hmC : X.mg C = some (.ref a)) (hdC : (C == ("__debug__" : Str)) = false) : PS X st (tIfE X.K a w f) := by
  unfold ifB at h
  split at h
  · simp only [Bool.and_eq_true, decide_eq_true_eq] at h
    obtain ⟨⟨⟨⟨⟨e1, e2⟩, e3⟩, e4⟩, e5⟩, e6⟩ := h
    subst e1 e2 e3 e4 e5 e6
    have ve : ∀ p, PE X (.Name "error" p) (tVar 2) := fun p => pe_var i2 hv
    exact ps_if (pt_val (pe_callB call_isKept hg hm (by decide +kernel) (pa_cons (ve _) (pa_cons (pe_glob hgC hmC rfl hdC) pa_nil rfl) rfl) (by decide) (by decide) rfl rfl) (by intro _; rfl))
      (pss_one (ps_ret (pe_tup (pa_cons pe_str (pa_cons (pe_kf (ve _) rfl) pa_nil rfl) rfl)))) pss_nil
  · cases h
end
end Ev

set_option Elab.async false
set_option linter.all false
set_option maxRecDepth 100000
set_option maxHeartbeats 1000000
/-! the law's word: x(lambda: e), the error's word or the value -/
namespace Ev
open PySem PySem.Spec PyProof.Rows L2
/-- the def x that takes a lambda: where it stands -/
structure LDef (Z : Fx) (mg : Str → Option Value) (base : Heap) (x : Str) (body : List Stmt) (sc : Scope) (N : List Str) (f c P : Addr) : Prop where
  fn : ∃ (oc : Value) (od : Option Addr) (params : Arguments) (dV kV doc pm : Value) (an : Option Addr) (ct : Value) (osl : Array (Option Value)), Z.K.lookup f = some ⟨oc, od, .func (PySem.W.fnOf x x params body sc dV kV doc pm an (.ref c) ct), osl⟩ ∧ Binds Z.K (PySem.W.fnOf x x params body sc dV kV doc pm an (.ref c) ct) ["action"] []
  mg : mg x = some (.ref f)
  kp : PySem.W.keepIn Z.K (.ref f) = true
  code : PySem.W.codeIn Z.K (.ref c) x = true
  sc : FnScope N ["action"] sc
theorem ext_rel {Z : Fx} {F M : List Addr} {S : Sto} {H H1 : Hp} (r : Rel Z F M S H) (e : LamX.ExtN H H1) (fr : ∀ b, H1 b = none → H b = none) (t : LamX.Tabs Z.T H1) : Ext M H M H1 ∧ Rel Z F M S H1 := by
  have x : Ext M H M H1 := ⟨⟨[], by simp⟩, fun _ h => .inl h, fun a o h _ n => e a o h n, fun a xs h => e a _ h (fun _ z => nomatch z), fr⟩
  refine ⟨x, r.len, r.nd, fun n a o h1 h2 => (r.ob n a o h1 h2).mono r x ?_, r.dis, fun a ha => ?_, t⟩
  · obtain ⟨u, e1, t1, _, _⟩ := r.tr (List.mem_of_getElem? h1)
    rw [e1]
    exact e a u e1 t1
  · obtain ⟨u, e1, t1⟩ := r.there a ha
    exact ⟨u, e a u e1 t1, t1⟩
/-- a lambda's body evaluated, what it raises is taken by E' -/
def tL (Z : Fx) (E : Ex) (f : Sl → Sto → Rs PV) (E' : XK) : TE := fun σ H Q => ∃ F M S σp, Rel Z F M S H ∧ SlR Z F M H σp σ ∧ Post Z E F (R1 Z F) M H (f σp S) Q E'
theorem lam_body {Z : Fx} {E : Ex} {X : Cx} {A : Around} {outer : List Env} {s : Shared} {H : Hp} {E' : XK} {scope : Scope} {fa c' : Addr} {body : Expr} {f : Sl → Sto → Rs PV} (h : PE (LamX.lamCx X A outer s H E' scope fa c') body (tE Z E (LamX.lamCx X A outer s H E' scope fa c') f)) : PE (LamX.lamCx X A outer s H E' scope fa c') body (tL Z E f E') :=
  peI h fun σ H Q ⟨F, M, S, σp, r, sl, p⟩ => ⟨F, M, S, σp, E', ⟨L2.takes_of rfl rfl rfl rfl, r, sl⟩, p⟩
/-- what calls the lambda f at c' -/
def tAct (f c' : Addr) (q : Str) (tb : XK → TE) (σX : L2.St) : WX → TE := fun W σZ HZ Q => σZ[0]? = some (some (V.ref f)) ∧ HZ c' = some (LamX.CodeO c' q) ∧ ∃ E : XK, (∀ cls d H', E cls d H' → W cls d σZ H') ∧ tb E σX HZ Q
/-- told.append(action()) -/
def tTold (K : PySem.W.Frag) (act : WX → TE) (E : XK) : TE := tBM K "list" rAppend (tVar 1) (tCons (act fun c d _ H => E c d H) tNil)
def toldBody (q6 q7 q8 q9 q10 : Pos) : Expr := .Call (.Attribute (.Name "told" q6) "append" q7) [.Call (.Name "action" q8) [] [] q9] [] q10
section
variable {Z : Fx} {X : Cx} {pins : List (Addr × Obj)} {σ : L2.St} {H : Hp} {s : Shared}
theorem told_ok {Y : Cx} {act : WX → TE} {E : XK} {q6 q7 q8 q9 q10 : Pos} (i1 : Y.N[1]? = some ("told" : Str)) (hv : Vis Y.env.scope "told") (hl : (q7.endLine == q10.line) = true) (hact : PE Y (.Call (.Name "action" q8) [] [] q9) (act fun c d _ H => E c d H)) : PE Y (toldBody q6 q7 q8 q9 q10) (tTold Y.K act E) :=
  pe_bm PySem.F.plainAttrs_list PySem.F.slot_list_append PySem.F.type_list_append mt_append (pe_var i1 hv) (pa_cons hact pa_nil rfl) rfl rfl hl rfl rfl
theorem noPar_eq {p : Arguments} (h : noPar p = true) : p = ⟨[], [], none, [], [], none, []⟩ := by
  unfold noPar at h
  split at h
  · rfl
  · cases h
theorem noPar_def {p : Arguments} {env : Env} (h : noPar p = true) : defaultsOf p env = ([], []) := by rw [noPar_eq h] <;> rfl
theorem noPar_bind {p : Arguments} {q : Str} {body : Expr} {scope : Scope} {cl : List (Str × Addr)} {pm cv ctv : Value} (h : noPar p = true) : bindArgs (PySem.W.kla_fn "<lambda>" q p body scope cl pm cv ctv) ⟨[], []⟩ = pure [] := by
  rw [noPar_eq h]
  kernel_rfl
theorem frs_cons {e : Env} {l : List Env} {b : Addr} (h : b ∈ frs l) : b ∈ frs (e :: l) := by
  obtain ⟨x, hx, q⟩ := List.mem_filterMap.mp h
  exact List.mem_filterMap.mpr ⟨x, List.mem_cons_of_mem _ hx, q⟩
theorem frs_of {e : Env} {l : List Env} {b : Addr} (h : b ∈ frs (e :: l)) : e.frame = some b ∨ b ∈ frs l := by
  obtain ⟨x, hx, q⟩ := List.mem_filterMap.mp h
  rcases List.mem_cons.mp hx with z | z
  · exact .inl (by rw [← z]; exact q)
  · exact .inr (List.mem_filterMap.mpr ⟨x, z, q⟩)
theorem get_none {h : Heap} {n : Nat} (hn : h.objs.size ≤ n) : h.get? n = none := by
  cases q : h.get? n with
  | none => rfl
  | some o => exact absurd (Nat.lt_of_lt_of_le (Heap.lt_size q) hn) (Nat.lt_irrefl _)
/-- _law_caught(lambda: told.append(action())), in the def that got the lambda f1: XW is its context, entered at s from X -/
theorem pe_caught {ca we : Str} {CWE fC cC PC fw cW PW : Addr} {bodyC : List Stmt} {sC : Scope} {p1 p2 p3 p4 p5 p6 p7 p8 p9 p10 p11 p12 p13 p14 p15 p16 p17 p18 p19 p20 p21 p22 p23 : Pos} {j1 j2 : Nat} {f1 c1 : Addr} {pm1 ctv1 : Value} {params1 : Arguments} {body1 : Expr} {scope1 : Scope} {k : Nat} {tb : XK → TE}
    {w : Str} {NW : List Str} {sW : Scope} {ps2 : Arguments} {sL : Scope} {q5 q6 q7 q8 q9 q10 q11 q12 : Pos}
    (hK : X.K = Z.K) (I : Inv X pins σ H s) (L : LamX.LamS X.env.scope scope1) (hf : s.heap.get? f1 = some (PySem.W.kla_obj "<lambda>" (X.env.qual ++ "<lambda>") params1 body1 scope1 (cloFrom X.env.cells scope1.names []) pm1 c1 ctv1)) (hfn : H f1 = none) (hfr : f1 ∉ frs X.stack) (hp1 : noPar params1 = true)
    (hbody1 : ∀ (E : XK) (A : Around) (outer : List Env) (s' : Shared) (H' : Hp), A.guards = X.A.guards → Room k (A.deeper (LamX.lamEnv X scope1 s'.heap.objs.size f1 c1)) → PE (LamX.lamCx X A outer s' H' E scope1 f1 c1) body1 (tb E))
    (DC : LDef Z X.mg X.base ca (caughtBody we p1 p2 p3 p4 p5 p6 p7 p8 p9 p10 p11 p12 p13 p14 p15 p16 p17 p18 p19 p20 p21 p22 p23 j1 j2) sC ["action", "found", "error"] fC cC PC)
    (hl9 : (p9.endLine == p11.line) = true) (hl7 : (q7.endLine == q10.line) = true) (hcf : sC.names.lookup ("found" : Str) = some .local) (hce : sC.names.lookup ("error" : Str) = some .local) (hca : sC.names.lookup ("action" : Str) = some .local) (hcw : sC.names.lookup we = some .globalImplicit) (hmw : X.mg we = some (.ref CWE)) (hdw : (we == ("__debug__" : Str)) = false)
    (TBW : LamX.TabB X.base X.mg cW PW) (hmT : (PW, (envOfC w sW 0 fw (.ref cW)).qual ++ "<lambda>") ∈ Z.T) (hu : ∀ p ∈ Z.T, p.1 = PW → p.2 = (envOfC w sW 0 fw (.ref cW)).qual ++ "<lambda>") (hp2 : noPar ps2 = true) (hLW : LamX.lamSB sW sL = true) (hNW : NW = ([("action" : Str), "told", "error", "word", "is_one"] : List Str)) (nW : NW.Nodup)
    (ha2 : Vis sL "action") (ht2 : Vis sL "told") (hgc : sW.names.lookup ca = some .globalImplicit) (hdc : (ca == ("__debug__" : Str)) = false) (hr : Room (k + 4) X.A) :
    PE (cxOf C8.CX0 X.prog X.w X.K X.mg X.base NW w sW fw (.ref cW) X.A X.stack s H C8.E0) (.Call (.Name ca q5) [.Lambda ps2 (toldBody q6 q7 q8 q9 q10) sL q11] [] q12)
      (fun σW HW Q => LamX.Tabs Z.T HW ∧ ∀ (f2 c2 : Addr) (H3 : Hp), LamX.ExtN HW H3 → (∀ b, H3 b = none → HW b = none) → LamX.Tabs Z.T H3 → H3 f2 = none → H3 c2 = some (LamX.CodeO c2 ((envOfC w sW 0 fw (.ref cW)).qual ++ "<lambda>")) →
        tCaught (CWE := CWE) X.K (tAct f2 c2 ((envOfC w sW 0 fw (.ref cW)).qual ++ "<lambda>") (tTold X.K (tAct f1 c1 (X.env.qual ++ "<lambda>") tb σ)) σW) { nx := fun _ H' => Q .non H', rt := Q } (L2.start ["action", "found", "error"] [.ref f2]) H3) := by
  have LW : LamX.LamS sW sL := LamX.lamS_by hLW
  refine ⟨fun pinsW s2 σW HW Q IW h => ?_⟩
  obtain ⟨hT, h⟩ := h
  obtain ⟨oc, od, pg, dV, kV, doc, pm, an, ct, osl, lk, hb⟩ := DC.fn
  have kp := DC.kp
  have code := DC.code
  rw [← hK] at lk hb kp code
  refine wpAny_Call_Name_kw (ld_glob IW hgc DC.mg ?_ hdc)
  refine PySem.W.callWith_K (h₀ := X.base) IW.ok.mod.kin kp ?_ (by rfl) (by rfl)
  show wpAny _ _ (spliced ((false, eval (.Lambda ps2 (toldBody q6 q7 q8 q9 q10) sL q11) (cxOf C8.CX0 X.prog X.w X.K X.mg X.base NW w sW fw (.ref cW) X.A X.stack s H C8.E0).env) :: backTo q12 (starEach [] (cxOf C8.CX0 X.prog X.w X.K X.mg X.base NW w sW fw (.ref cW) X.A X.stack s H C8.E0).env))) _ _ s2
  refine Calls.spliced_cons (lam_make3 IW TBW rfl hmT hu hT (noPar_def hp2) (LamX.LamS.has (X := cxOf C8.CX0 X.prog X.w X.K X.mg X.base NW w sW fw (.ref cW) X.A X.stack s H C8.E0) LW IW.ok) fun f2 c2 pm2 ctv2 H3 s3 I3 eN fr T3 hf2 hfn2 hfr2 hco2 hnew2 => ?_)
  refine Calls.spliced_nil ⟨I3.kIn, ?_⟩
  have hrW : Room (k + 3) (X.A.deeper (envOfC w sW s.heap.objs.size fw (.ref cW))) := hr.deeper _
  have rc : codeAny (model X.prog X.w) (X.A.deeper (envOfC w sW s.heap.objs.size fw (.ref cW))) (.call (.ref fC) ⟨[.ref f2], []⟩) (CR C8.CX0 (envOfC w sW s.heap.objs.size fw (.ref cW) :: X.stack) X.prog X.w H3 s3 Q C8.E0) s3 := by
    refine LamX.run_ofS (CX := C8.CX0) (N := ["action", "found", "error"]) (ps := ["action"]) (us := [.ref f2]) (vs := [.ref f2]) lk code DC.sc hrW I3.env0 (hb s3 [.ref f2] I3.kIn rfl) (.cons rfl .nil) rfl fun hr' => ?_
    have huC : (X.A.deeper (envOfC w sW s.heap.objs.size fw (.ref cW))).units + 3 + 200 < cLine := by
      have := hr'.un
      have e : ((X.A.deeper (envOfC w sW s.heap.objs.size fw (.ref cW))).deeper (envOfC ca sC s3.heap.objs.size fC (.ref cC))).units = (X.A.deeper (envOfC w sW s.heap.objs.size fw (.ref cW))).units + 3 := rfl
      rw [e] at this
      omega
    refine ⟨_, (ca_ok (X := (cxOf C8.CX0 X.prog X.w X.K X.mg X.base ["action", "found", "error"] ca sC fC (.ref cC) (X.A.deeper (envOfC w sW s.heap.objs.size fw (.ref cW))) (envOfC w sW s.heap.objs.size fw (.ref cW) :: X.stack) s3 H3 C8.E0).nox) rfl rfl rfl rfl (fun _ => rfl) huC hcf hce ⟨hcw, hdw, .inl hmw⟩ hl9 (fun W pn xe tk => ?_)).nox, h f2 c2 H3 eN fr T3 hfn2 hco2⟩
    refine pe_act2 (X := cxOf C8.CX0 X.prog X.w X.K X.mg X.base NW w sW fw (.ref cW) X.A X.stack s H C8.E0) (k := k + 1) (i := 0) (a := "action") (tb := tTold X.K (tAct f1 c1 (X.env.qual ++ "<lambda>") tb σ)) I3 LW hf2 hfn2 hfr2 (noPar_bind hp2) (fun pinsZ σZ HZ sZ IZ => IZ.base) tk hr' (fun E s4 H4 hr4 un4 => ?_) rfl (.inl hca)
    refine told_ok (Y := LamX.lamCx (cxOf C8.CX0 X.prog X.w X.K X.mg X.base NW w sW fw (.ref cW) X.A X.stack s H C8.E0) _ _ s4 H4 E sL f2 c2) (by rw [show (LamX.lamCx (cxOf C8.CX0 X.prog X.w X.K X.mg X.base NW w sW fw (.ref cW) X.A X.stack s H C8.E0) _ _ s4 H4 E sL f2 c2).N = NW from rfl, hNW]; rfl) ht2 hl7 ?_
    refine pe_act2 (X := X) (k := k) (i := 0) (a := "action") (tb := tb) I L hf hfn hfr (noPar_bind hp1) (fun pinsZ σZ HZ sZ IZ => ?_) (L2.takes_of rfl rfl rfl rfl) hr4 (fun E1 s5 H5 hr5 un5 => hbody1 E1 _ _ s5 H5 rfl hr5) (by rw [hNW]; rfl) ha2
    have u1 : Un (frs X.stack) [] H H3 s.heap s3.heap := I3.base
    have u3 : Un (frs (envOfC ca sC s3.heap.objs.size fC (.ref cC) :: envOfC w sW s.heap.objs.size fw (.ref cW) :: X.stack)) [] H4 HZ s4.heap sZ.heap := IZ.base
    refine un_shrink ((u1.mono (fun b hb => frs_cons (frs_cons hb)) fun _ h => h).trans ((un4.mono (fun b hb => frs_cons hb) fun _ h => h).trans u3)) fun b hb => ?_
    have sz : s.heap.objs.size ≤ s3.heap.objs.size := I3.sz
    rcases frs_of hb with e | hb
    · have e2 : s3.heap.objs.size = b := Option.some.inj e
      rw [← e2]
      exact .inr (get_none sz)
    · rcases frs_of hb with e | hb
      · have e2 : s.heap.objs.size = b := Option.some.inj e
        rw [← e2]
        exact .inr (get_none (Nat.le_refl _))
      · exact .inl hb
  refine wpAny_call (codeAny_mono rc fun r s' hq => ?_)
  cases r with
  | error e => exact (show False from hq).elim
  | ok fl =>
    cases fl with
    | ret u => exact I3.after hq
    | next => exact False.elim hq
    | brk => exact False.elim hq
    | cont => exact False.elim hq
end
end Ev

set_option Elab.async false
set_option linter.all false
set_option maxRecDepth 100000
/-! _law_word's body: the value, or the word of the error -/
namespace Ev
/-- x is None -/
def rNonN : L2.R2 := fun x y H Q => y = .non ∧ Q (.bl (decide (x = .non))) H
open PySem PySem.Spec PyProof.Rows L2
section
variable {X : Cx}
/-- statements that are never reached -/
theorem pss_never {sts : List Stmt} : PSs X sts (fun _ _ _ => False) := ⟨fun _ _ _ _ _ _ h => h.elim⟩
/-- a class of errors that carries a value: the class's name, its word, its field, its address -/
abbrev ErrC := Str × Str × Str × Addr
def errsB : List ErrC → List Stmt → Bool
  | [], _ => true
  | t :: l, s :: ss => ifB t.1 t.2.1 t.2.2.1 s && errsB l ss
  | _ :: _, [] => false
def tErrs (K : PySem.W.Frag) : List ErrC → TS
  | [] => fun _ _ _ => False
  | t :: l => tSeq (tIfE K t.2.2.2 t.2.1 t.2.2.1) (tErrs K l)
theorem errs_ok {l : List ErrC} : ∀ {sts : List Stmt}, errsB l sts = true → X.N[2]? = some ("error" : Str) → Vis X.env.scope "error" → Gl X "isinstance" → X.mg "isinstance" = none →
    (∀ t ∈ l, Gl X t.1 ∧ X.mg t.1 = some (.ref t.2.2.2) ∧ (t.1 == ("__debug__" : Str)) = false) → PSs X sts (tErrs X.K l) := by
  induction l with
  | nil => intro sts _ _ _ _ _ _; exact pss_never
  | cons t l ih =>
    intro sts h i2 hv hg hm hc
    cases sts with
    | nil => simp [errsB] at h
    | cons s ss =>
      simp only [errsB, Bool.and_eq_true] at h
      obtain ⟨c1, c2, c3⟩ := hc t List.mem_cons_self
      exact pss_cons (if_ok h.1 i2 hv hg hm c1 c2 c3) (ih h.2 i2 hv hg hm fun u hu => hc u (List.mem_cons_of_mem _ hu))
def wordBody (call : Expr) (rest : List Stmt) (p1 p2 p3 p4 p5 p6 p7 p8 p9 p10 p11 p12 p13 : Pos) (j1 j2 : Nat) : List Stmt :=
  .Assign [.Name "told" p1] (.List [] p2) p3 :: .Assign [.Name "error" p4] call p5 ::
  .If (.Compare (.Name "error" p6) [.Is] [.Constant .none j1 p7] p8) [.Return (some (.Subscript (.Name "told" p9) (.Constant (.int 0) j2 p10) p11)) p12] [] p13 :: rest
def tWord (K : PySem.W.Frag) (tc : TE) (l : List ErrC) : TS :=
  tSeq (tAsg (tLst tNil) (gName 1)) (tSeq (tAsg tc (gName 2)) (tSeq (tIfS (tTest (tOp rNonN (tVar 2) (tC .non))) (tRet (tOp (rIxL K) (tVar 1) (tC (.int 0)))) tNext) (tErrs K l)))
variable {call : Expr} {rest : List Stmt} {p1 p2 p3 p4 p5 p6 p7 p8 p9 p10 p11 p12 p13 : Pos} {j1 j2 : Nat} {tc : TE} {l : List ErrC}
theorem word_ok (nd : X.N.Nodup) (i1 : X.N[1]? = some ("told" : Str)) (i2 : X.N[2]? = some ("error" : Str)) (hfn : ∀ x, X.fn x = true) (h1 : Loc X.env.scope "told") (v1 : Vis X.env.scope "told") (h2 : X.env.scope.names.lookup ("error" : Str) = some .local)
    (hcall : PE X call tc) (hsw : swapsWith call (some (.Name "error" p4)) p5.line X.env = pure false) (hg : Gl X "isinstance") (hm : X.mg "isinstance" = none) (hl : errsB l rest = true)
    (hc : ∀ t ∈ l, Gl X t.1 ∧ X.mg t.1 = some (.ref t.2.2.2) ∧ (t.1 == ("__debug__" : Str)) = false) :
    PSs X (wordBody call rest p1 p2 p3 p4 p5 p6 p7 p8 p9 p10 p11 p12 p13 j1 j2) (tWord X.K tc l) :=
  pss_cons (ps_set nd i1 h1 (pe_lst pa_nil) rfl (.inl (hfn _))) (pss_cons (ps_set nd i2 (.inl h2) hcall hsw (.inl (hfn _)))
    (pss_cons (ps_if (pt_cmpR (r := rNonN) op_isN (pe_var i2 (.inl h2)) pe_non rfl) (pss_one (ps_ret (pe_ix ix_list (pe_var i1 v1) pe_int fun _ _ => rfl))) pss_nil) (errs_ok hl i2 (.inl h2) hg hm hc)))
end
end Ev

set_option Elab.async false
set_option linter.all false
set_option maxRecDepth 100000
set_option maxHeartbeats 1000000
/-! the law's word called: x(lambda: e) stepped through -/
namespace Ev
open PySem PySem.Spec PyProof.Rows L2
section
variable {Z : Fx} {X : Cx}
/-- the call of _law_caught in _law_word, which got the lambda f1 -/
def tCW (Z : Fx) (CWE : Addr) (K : PySem.W.Frag) (qW qX : Str) (f1 c1 : Addr) (tb : XK → TE) (σ : L2.St) : TE :=
  fun σW HW Q => LamX.Tabs Z.T HW ∧ ∀ (f2 c2 : Addr) (H3 : Hp), LamX.ExtN HW H3 → (∀ b, H3 b = none → HW b = none) → LamX.Tabs Z.T H3 → H3 f2 = none → H3 c2 = some (LamX.CodeO c2 (qW ++ "<lambda>")) →
    tCaught (CWE := CWE) K (tAct f2 c2 (qW ++ "<lambda>") (tTold K (tAct f1 c1 (qX ++ "<lambda>") tb σ)) σW) { nx := fun _ H' => Q .non H', rt := Q } (L2.start ["action", "found", "error"] [.ref f2]) H3
/-- x(lambda: e) -/
def tWC (Z : Fx) (CWE : Addr) (K : PySem.W.Frag) (qW qX : Str) (NW : List Str) (tb : XK → TE) (l : List ErrC) : TE :=
  fun σ H Q => LamX.Tabs Z.T H ∧ ∀ (f1 c1 : Addr) (H1 : Hp), LamX.ExtN H H1 → (∀ b, H1 b = none → H b = none) → LamX.Tabs Z.T H1 → H1 f1 = none → H1 c1 = some (LamX.CodeO c1 (qX ++ "<lambda>")) →
    tWord K (tCW Z CWE K qW qX f1 c1 tb σ) l { nx := fun _ H' => Q .non H', rt := Q } (L2.start NW [.ref f1]) H1
theorem pe_word {ca we : Str} {CWE fC cC PC fw cW PW cX PX : Addr} {sC : Scope} {p1 p2 p3 p4 p5 p6 p7 p8 p9 p10 p11 p12 p13 p14 p15 p16 p17 p18 p19 p20 p21 p22 p23 : Pos} {j1 j2 : Nat}
    {params1 : Arguments} {body1 : Expr} {scope1 : Scope} {k : Nat} {tb : XK → TE}
    {w : Str} {sW : Scope} {ps2 : Arguments} {sL : Scope} {q5 q6 q7 q8 q9 q10 q11 q12 : Pos} {rest : List Stmt} {l : List ErrC} {r1 r2 r3 r4 r5 r6 r7 r8 r9 r10 r11 r12 r13 : Pos} {i1 i2 : Nat} {u1 u2 u3 : Pos}
    (hK : X.K = Z.K) (L : LamX.lamSB X.env.scope scope1 = true) (hp1 : noPar params1 = true) (hcX : X.env.code = .ref cX) (TBX : LamX.TabB X.base X.mg cX PX) (hmX : (PX, X.env.qual ++ "<lambda>") ∈ Z.T) (huX : ∀ p ∈ Z.T, p.1 = PX → p.2 = X.env.qual ++ "<lambda>")
    (hgw : Gl X w) (hdwd : (w == ("__debug__" : Str)) = false)
    (hbody1 : ∀ (f1 c1 : Addr) (E : XK) (A : Around) (outer : List Env) (s' : Shared) (H' : Hp), A.guards = X.A.guards → Room k (A.deeper (LamX.lamEnv X scope1 s'.heap.objs.size f1 c1)) → PE (LamX.lamCx X A outer s' H' E scope1 f1 c1) body1 (tb E))
    (DC : LDef Z X.mg X.base ca (caughtBody we p1 p2 p3 p4 p5 p6 p7 p8 p9 p10 p11 p12 p13 p14 p15 p16 p17 p18 p19 p20 p21 p22 p23 j1 j2) sC ["action", "found", "error"] fC cC PC)
    (DW : LDef Z X.mg X.base w (wordBody (.Call (.Name ca q5) [.Lambda ps2 (toldBody q6 q7 q8 q9 q10) sL q11] [] q12) rest r1 r2 r3 r4 r5 r6 r7 r8 r9 r10 r11 r12 r13 i1 i2) sW ["action", "told", "error", "word", "is_one"] fw cW PW)
    (hl9 : (p9.endLine == p11.line) = true) (hl7 : (q7.endLine == q10.line) = true) (hcf : sC.names.lookup ("found" : Str) = some .local) (hce : sC.names.lookup ("error" : Str) = some .local) (hca : sC.names.lookup ("action" : Str) = some .local) (hcw : sC.names.lookup we = some .globalImplicit) (hmw : X.mg we = some (.ref CWE)) (hdw : (we == ("__debug__" : Str)) = false)
    (TBW : LamX.TabB X.base X.mg cW PW) (hmT : (PW, (envOfC w sW 0 fw (.ref cW)).qual ++ "<lambda>") ∈ Z.T) (hu : ∀ p ∈ Z.T, p.1 = PW → p.2 = (envOfC w sW 0 fw (.ref cW)).qual ++ "<lambda>") (hp2 : noPar ps2 = true) (hLW : LamX.lamSB sW sL = true)
    (ha2 : Vis sL "action") (ht2 : Vis sL "told") (hgc : sW.names.lookup ca = some .globalImplicit) (hdc : (ca == ("__debug__" : Str)) = false)
    (htW : sW.names.lookup ("told" : Str) = some .cell) (heW : sW.names.lookup ("error" : Str) = some .local) (hiW : sW.names.lookup ("isinstance" : Str) = some .globalImplicit) (hmi : X.mg "isinstance" = none)
    (hlr : errsB l rest = true) (hcl : ∀ t ∈ l, sW.names.lookup t.1 = some .globalImplicit ∧ X.mg t.1 = some (.ref t.2.2.2) ∧ (t.1 == ("__debug__" : Str)) = false)
    (hr : Room (k + 5) X.A) :
    PE X (.Call (.Name w u1) [.Lambda params1 body1 scope1 u2] [] u3) (tWC Z CWE X.K (envOfC w sW 0 fw (.ref cW)).qual X.env.qual ["action", "told", "error", "word", "is_one"] tb l) := by
  have LX : LamX.LamS X.env.scope scope1 := LamX.lamS_by L
  refine ⟨fun pins s σ H Q I h => ?_⟩
  obtain ⟨hT, h⟩ := h
  obtain ⟨oc, od, pg, dV, kV, doc, pm, an, ct, osl, lk, hb⟩ := DW.fn
  have kp := DW.kp
  have code := DW.code
  rw [← hK] at lk hb kp code
  refine wpAny_Call_Name_kw (ld_glob I hgw DW.mg ?_ hdwd)
  refine PySem.W.callWith_K (h₀ := X.base) I.ok.mod.kin kp ?_ (by rfl) (by rfl)
  show wpAny _ _ (spliced ((false, eval (.Lambda params1 body1 scope1 u2) X.env) :: backTo u3 (starEach [] X.env))) _ _ s
  refine Calls.spliced_cons (lam_make3 (T := Z.T) I TBX hcX hmX huX hT (noPar_def hp1) (LamX.LamS.has (X := X) LX I.ok) fun f1 c1 pm1 ctv1 H1 s1 I1 eN fr T1 hf1 hfn1 hfr1 hco1 hnew1 => ?_)
  refine Calls.spliced_nil ⟨I1.kIn, ?_⟩
  have rc : codeAny (model X.prog X.w) X.A (.call (.ref fw) ⟨[.ref f1], []⟩) (CR C8.CX0 X.stack X.prog X.w H1 s1 Q C8.E0) s1 := by
    refine LamX.run_ofS (CX := C8.CX0) (N := ["action", "told", "error", "word", "is_one"]) (ps := ["action"]) (us := [.ref f1]) (vs := [.ref f1]) lk code DW.sc (k := k + 4) hr I1.env0 (hb s1 [.ref f1] I1.kIn rfl) (.cons rfl .nil) rfl fun hr' => ?_
    refine ⟨_, word_ok (X := cxOf C8.CX0 X.prog X.w X.K X.mg X.base ["action", "told", "error", "word", "is_one"] w sW fw (.ref cW) X.A X.stack s1 H1 C8.E0) (tc := tCW Z CWE X.K (envOfC w sW 0 fw (.ref cW)).qual X.env.qual f1 c1 tb σ) (l := l) DW.sc.nd rfl rfl (fun _ => rfl) (.inr htW) (.inr (.inl htW)) heW ?_ rfl hiW hmi hlr hcl, h f1 c1 H1 eN fr T1 hfn1 hco1⟩
    exact pe_caught (bodyC := []) (k := k) (tb := tb) hK I1 LX hf1 hfn1 hfr1 hp1 (hbody1 f1 c1) DC hl9 hl7 hcf hce hca hcw hmw hdw TBW hmT hu hp2 hLW rfl DW.sc.nd ha2 ht2 hgc hdc (hr.mono (by omega))
  refine wpAny_call (codeAny_mono rc fun r s' hq => ?_)
  cases r with
  | error e => exact (show False from hq).elim
  | ok fl =>
    cases fl with
    | ret u => exact I1.after hq
    | next => exact False.elim hq
    | brk => exact False.elim hq
    | cont => exact False.elim hq
end
end Ev

set_option Elab.async false
set_option linter.all false
set_option maxRecDepth 100000
set_option maxHeartbeats 1000000
/-! the law's word: what pe_word asks, computed -/
namespace Ev
open PySem PySem.Spec PyProof.Rows L2
theorem rel_new {Z : Fx} {F M : List Addr} {S : Sto} {H : Hp} (r : Rel Z F M S H) {D : Addr} (hD : H D = none) : Rel Z (D :: F) M S (upd H D (.lst [])) ∧ Ext M H M (upd H D (.lst [])) := ⟨r.addF hD, (r.fresh hD).2⟩
theorem upd_at {H : Hp} {D : Addr} {o : HO} : upd H D o D = some o := by simp [upd]
theorem upd_ne {H : Hp} {D a : Addr} {o : HO} (h : a ≠ D) : upd H D o a = H a := by simp [upd, h]
theorem upd_old {H : Hp} {D a : Addr} {o u : HO} (hD : H D = none) (h : H a = some u) : upd H D o a = some u := by
  rw [upd_ne]
  · exact h
  · intro e
    rw [e, hD] at h
    cases h
theorem after_new {Z : Fx} {F M : List Addr} {S : Sto} {H : Hp} (r : Rel Z F M S H) {D : Addr} (hD : H D = none) : Rel Z F M S (upd H D (.lst [])) := (r.addF hD).subF
/-- e is well: its value comes back -/
theorem told_back {z0 : Option V} {Z : Fx} {F M M' : List Addr} {S1 : Sto} {H H' : Hp} {D1 D2 : Addr} {v : PV} {u : V} {Q : VK}
    (x : Ext M H M' H') (h1 : H D1 = none) (h2 : H D2 = none) (n12 : D1 ≠ D2) (a1 : H' D1 = some (.lst [])) (a2 : H' D2 = some (.lst [])) (rl : Rel Z (D2 :: D1 :: F) M' S1 H') (rv : RV Z (D2 :: D1 :: F) M' H' v u)
    (p : ∀ M' H' u, Ext M H M' H' → Rel Z F M' S1 H' → RV Z F M' H' v u → Q u H') {E : Ends} (hE : ∀ H6, SqL Z.K H6 D1 [u] → Q u H6 → E.rt .non H6) :
    rAppend (.ref D1) [u] H' fun _ H5 => tBack Z.K E [z0, some (.ref D2), none] H5 := by
  refine ⟨D1, [], u, rfl, rfl, a1, by decide, ?_⟩
  have rl1 : Rel Z (D1 :: F) M' S1 (upd H' D1 (.lst [u])) := rl.subF.over a1
  have rv1 : RV Z (D1 :: F) M' (upd H' D1 (.lst [u])) v u := RV.over a1 (RV.subF rv)
  have x1 : Ext M H M' (upd H' D1 (.lst [u])) := x.past h1
  have b2 : upd H' D1 (.lst [u]) D2 = some (.lst []) := by rw [upd_ne n12.symm]; exact a2
  refine ⟨.ref D2, rfl, by decide, fun D3 h3 => ?_⟩
  refine ⟨D2, D3, [], rfl, rfl, .inl (.inl (upd_old h3 b2)), .inl (.inl upd_at), _, rfl, ?_⟩
  exact hE _ (.inl (.inl (upd_old h3 upd_at))) (p M' _ u (x1.trans (rl1.fresh h3).2) (rl1.addF h3).subF.subF (RV.subF (RV.subF (RV.addF h3 rv1))))
/-- what pe_word asks, from what e does -/
theorem twc {Z : Fx} {Y : Ex} {CWE : Addr} {qW qX : Str} {f : Sl → Sto → Rs PV} {l : List ErrC} {F M : List Addr} {S : Sto} {H : Hp} {σp : Sl} {σ : L2.St} {Q : VK}
    (hr : Rel Z F M S H) (hs : SlR Z F M H σp σ) (hb : f σp S ≠ .bad)
    (hok : ∀ (v : PV) (S1 : Sto), f σp S = .ok v S1 → ∀ (M' : List Addr) (H' : Hp) (u : V), Ext M H M' H' → Rel Z F M' S1 H' → RV Z F M' H' v u → Q u H')
    (hex : ∀ (c : Nat) (fs : List PV) (S1 : Sto), f σp S = .ex c fs S1 → ∀ (D1 D2 f1 f2 : Addr) (M' : List Addr) (H' : Hp) (cls : Value) (d : Option Addr), Ext M H M' H' → H D1 = none → H D2 = none → D1 ≠ D2 → H' D1 = some (.lst []) → H' D2 = some (.lst []) → Rel Z (D2 :: D1 :: F) M' S1 H' → Y.is c fs cls d H' →
      wKeep Z.K (.ref CWE) 2 (tSuite Z.K) (fun _ _ _ _ => False) { nx := tBack Z.K { nx := fun _ H' => (tSeq (tIfS (tTest (tOp rNonN (tVar 2) (tC .non))) (tRet (tOp (rIxL Z.K) (tVar 1) (tC (.int 0)))) tNext) (tErrs Z.K l) { nx := fun _ H' => Q .non H', rt := Q } [some (.ref f1), some (.ref D1), some .non, none, none] H'), rt := fun u H6 => tSeq (tIfS (tTest (tOp rNonN (tVar 2) (tC .non))) (tRet (tOp (rIxL Z.K) (tVar 1) (tC (.int 0)))) tNext) (tErrs Z.K l) { nx := fun _ H' => Q .non H', rt := Q } [some (.ref f1), some (.ref D1), some u, none, none] H6 }, rt := fun u H6 => tSeq (tIfS (tTest (tOp rNonN (tVar 2) (tC .non))) (tRet (tOp (rIxL Z.K) (tVar 1) (tC (.int 0)))) tNext) (tErrs Z.K l) { nx := fun _ H' => Q .non H', rt := Q } [some (.ref f1), some (.ref D1), some u, none, none] H6 } cls d [some (.ref f2), some (.ref D2), none] H') :
    tWC Z CWE Z.K qW qX ["action", "told", "error", "word", "is_one"] (fun E' => tL Z Y f E') l σ H Q := by
  refine ⟨hr.tabs, fun f1 c1 H1 e1 fr1 T1 n1 k1 => ?_⟩
  obtain ⟨xA, rA⟩ := ext_rel hr e1 fr1 T1
  refine ⟨by decide, fun D1 hD1 => ?_⟩
  obtain ⟨rB, xB⟩ := rel_new rA hD1
  refine ⟨rB.tabs, fun f2 c2 H3 e3 fr3 T3 n3 k3 => ?_⟩
  obtain ⟨xC, rC⟩ := ext_rel rB e3 fr3 T3
  refine ⟨by decide, fun D2 hD2 => ?_⟩
  obtain ⟨rD, xD⟩ := rel_new rC hD2
  have d31 : H3 D1 = some (.lst []) := e3 D1 _ upd_at (fun _ h => nomatch h)
  have dD1 : upd H3 D2 (.lst []) D1 = some (.lst []) := upd_old hD2 d31
  have h1 : H D1 = none := xA.fre D1 hD1
  have h2 : H D2 = none := xA.fre D2 (xB.fre D2 (fr3 D2 hD2))
  have ne : D1 ≠ D2 := fun e => by rw [e, hD2] at d31; cases d31
  have x0 : Ext M H M (upd H3 D2 (.lst [])) := xA.trans (xB.trans (xC.trans xD))
  refine ⟨rfl, upd_old hD2 k3, _, fun cls d H' h => h, ?_⟩
  refine ⟨.ref D1, rfl, .inl ⟨rfl, [], .inl (.inl dD1)⟩, ?_⟩
  refine ⟨rfl, upd_old hD2 (e3 c1 _ (upd_old hD1 k1) (fun _ h => nomatch h)), _, fun cls d H' h => h, ?_⟩
  have sl : SlR Z (D2 :: D1 :: F) M (upd H3 D2 (.lst [])) σp σ := (((hs.mono hr xA).addF hD1).mono rB xC).addF hD2
  refine ⟨D2 :: D1 :: F, M, S, σp, rD, sl, ?_⟩
  cases q : f σp S with
  | bad => exact hb q
  | ok v S1 =>
    intro M' H' u x rl rv
    have x1 : Ext M H M' H' := x0.trans x
    have nM : ∀ D, H D = none → D ∈ (D2 :: D1 :: F) → D ∉ M := fun D _ h => rD.dis D h
    have a1 : H' D1 = some (.lst []) := x.keep D1 _ dD1 (rD.dis D1 (by simp)) (fun _ h => nomatch h)
    have a2 : H' D2 = some (.lst []) := x.keep D2 _ upd_at (rD.dis D2 (by simp)) (fun _ h => nomatch h)
    refine told_back (z0 := some (.ref f2)) x1 h1 h2 ne a1 a2 rl rv (hok v S1 q) fun H6 sq q6 => ?_
    refine ⟨.non, rfl, rfl, _, rfl, ?_⟩
    exact ⟨.ref D1, rfl, D1, [u], 0, u, rfl, rfl, sq, rfl, q6⟩
  | ex c fs S1 =>
    intro M' H' cls d x rl hi
    have x1 : Ext M H M' H' := x0.trans x
    have a1 : H' D1 = some (.lst []) := x.keep D1 _ dD1 (rD.dis D1 (by simp)) (fun _ h => nomatch h)
    have a2 : H' D2 = some (.lst []) := x.keep D2 _ upd_at (rD.dis D2 (by simp)) (fun _ h => nomatch h)
    exact hex c fs S1 q D1 D2 f1 f2 M' H' cls d x1 h1 h2 ne a1 a2 rl hi
end Ev

set_option Elab.async false
set_option linter.all false
set_option maxRecDepth 100000
set_option maxHeartbeats 1000000
/-! the law's word: the error that e raised, told -/
namespace Ev
open PySem PySem.Spec PyProof.Rows L2
theorem told_ex {z0 : Option V} {Z : Fx} {F M M' : List Addr} {S1 : Sto} {H H' : Hp} {D1 D2 CWE : Addr} {cls : Value} {d : Option Addr} {Wout : WX} {D E : Ends}
    (x : Ext M H M' H') (h2 : H D2 = none) (a2 : H' D2 = some (.lst [])) (rl : Rel Z (D2 :: D1 :: F) M' S1 H')
    (hc : PySem.W.exmOne Z.K cls (.ref CWE) = some true) (hD : D.nx = tBack Z.K E)
    (hE : ∀ a H7, H7 a = some (KeptE cls d a) → Ext M H M' H7 → Rel Z F M' S1 H7 → (∀ b o, b ≠ D2 → H' b = some o → H7 b = some o) → (∀ p v, RV Z (D2 :: F) M' H' p v → RV Z F M' H7 p v) → E.rt (.ref a) H7) :
    wKeep Z.K (.ref CWE) 2 (tSuite Z.K) Wout D cls d [z0, some (.ref D2), none] H' := by
  refine ⟨true, hc, fun _ a ha => ?_, fun h => nomatch h⟩
  refine ⟨.ref D2, rfl, .inl ⟨rfl, [], .inl (.inl a2)⟩, .ref a, rfl, D2, [], .ref a, rfl, rfl, a2, by decide, fun h5 => ?_⟩
  rw [hD]
  have rl1 := rl.over (acc' := [.ref a]) a2
  have x1 := x.past (o := .lst [.ref a]) h2
  obtain ⟨rl2, x2⟩ := rl1.fresh (o := KeptE cls d a) h5
  have b2 : upd (upd H' D2 (.lst [.ref a])) a (KeptE cls d a) D2 = some (.lst [.ref a]) := upd_old h5 upd_at
  refine ⟨.ref D2, rfl, by decide, fun D3 h3 => ?_⟩
  refine ⟨D2, D3, [.ref a], rfl, rfl, .inl (.inl (upd_old h3 b2)), .inl (.inl upd_at), _, rfl, ?_⟩
  refine ⟨.ref D2, rfl, D2, [.ref a], 0, .ref a, rfl, rfl, .inl (.inl (upd_old h3 b2)), rfl, ?_⟩
  refine hE a _ (upd_old h3 upd_at) ((x1.trans x2).trans (rl2.fresh h3).2) (rl2.fresh h3).1.subF.subF (fun b o nb hb => ?_) fun p v rv => RV.subF (RV.subF (RV.subF (RV.addF h3 (RV.addF h5 (RV.over a2 rv)))))
  exact upd_old h3 (upd_old h5 (by rw [upd_ne nb]; exact hb))
/-- the classes before the error's own answer no, its own yes -/
theorem errs_hit {Z : Fx} {l : List ErrC} {C D a dd : Addr} {w fld : Str} {v : V} {fs : List (Str × V)} {E : Ends} {σ : L2.St} {H : Hp} (h2 : σ[2]? = some (some (.ref a))) (ha : H a = some (KeptE (.ref D) (some dd) a)) (hd : H dd = some (.xd fs)) (EC : ExcC Z.K D) (XC : XfC Z.K D)
    (hf : PySem.W.findIn Z.K (.ref D) fld = some none) (hv : fs.lookup fld = some v) (pre post : List ErrC) (hl : l = pre ++ (n, w, fld, C) :: post) (hpre : ∀ t ∈ pre, PySem.W.kitOne Z.K (.ref D) (.ref t.2.2.2) = some false) (hit : PySem.W.kitOne Z.K (.ref D) (.ref C) = some true)
    (q : ∀ p, H p = none → E.rt (.ref p) (upd H p (.tup [.str w, v]))) : tErrs Z.K l E σ H := by
  subst hl
  induction pre with
  | nil => exact ⟨.ref a, h2, a, D, C, some dd, true, rfl, ha, fun x e => ⟨fs, by cases e; exact hd⟩, EC, hit, true, rfl, .ref a, h2, a, D, dd, fs, v, rfl, ha, XC, hf, hd, hv, (by show 2 ≤ sizeLine; decide), q⟩
  | cons t pre ih =>
    refine ⟨.ref a, h2, a, D, t.2.2.2, some dd, false, rfl, ha, fun x e => ⟨fs, by cases e; exact hd⟩, EC, hpre t List.mem_cons_self, false, rfl, ?_⟩
    exact ih fun u hu => hpre u (List.mem_cons_of_mem _ hu)
end Ev

set_option Elab.async false
set_option linter.all false
set_option maxRecDepth 100000
set_option maxHeartbeats 1000000
/-! the law's word: its rule -/
namespace Ev
open PySem PySem.Spec PyProof.Rows L2
/-- what is known of the words that a law tells of errors -/
def WordOk (K : PySem.W.Frag) (tab : List (Addr × Option Str)) (CWE : Addr) (l : List ErrC) (word : Nat → List PV → Option PV) : Prop :=
  ∀ c fs v, word c fs = some v → ∃ (D : Addr) (fld w n : Str) (p : PV) (pre post : List ErrC), tab[c]? = some (D, some fld) ∧ fs = [p] ∧ v = .tup [.str w, p] ∧ PySem.W.exmOne K (.ref D) (.ref CWE) = some true ∧ ExcC K D ∧ XfC K D ∧ PySem.W.findIn K (.ref D) fld = some none ∧
    l = pre ++ (n, w, fld, D) :: post ∧ (∀ t ∈ pre, PySem.W.kitOne K (.ref D) (.ref t.2.2.2) = some false) ∧ PySem.W.kitOne K (.ref D) (.ref D) = some true
theorem twc_post {Z : Fx} {tab : List (Addr × Option Str)} {CWE : Addr} {qW qX : Str} {f : Sl → Sto → Rs PV} {l : List ErrC} {F M : List Addr} {S : Sto} {H : Hp} {σp : Sl} {σ : L2.St} {Q : VK} {W : XK} {word : Nat → List PV → Option PV}
    (hw : WordOk Z.K tab CWE l word) (hr : Rel Z F M S H) (hs : SlR Z F M H σp σ)
    (p : Post Z (exIs Z tab) F (R1 Z F) M H (match f σp S with | .ok v S1 => .ok v S1 | .ex c fs S1 => ofO (word c fs) S1 | .bad => .bad) Q W) :
    tWC Z CWE Z.K qW qX ["action", "told", "error", "word", "is_one"] (fun E' => tL Z (exIs Z tab) f E') l σ H Q := by
  cases q : f σp S with
  | bad => rw [q] at p; exact p.elim
  | ok v S1 =>
    rw [q] at p
    refine twc hr hs (by rw [q]; exact nofun) (fun v' S1' e => ?_) fun c fs S1' e => ?_
    · rw [q] at e
      cases e
      exact p
    · rw [q] at e
      cases e
  | ex c fs S1 =>
    rw [q] at p
    have p : Post Z (exIs Z tab) F (R1 Z F) M H (ofO (word c fs) S1) Q W := p
    cases hv : word c fs with
    | none => rw [hv] at p; exact p.elim
    | some v =>
      rw [hv] at p
      refine twc hr hs (by rw [q]; exact nofun) (fun v' S1' e => ?_) fun c' fs' S1' e => ?_
      · rw [q] at e
        cases e
      · rw [q] at e
        cases e
        intro D1 D2 f1 f2 M' H' cls d x h1 h2 ne a1 a2 rl hi
        obtain ⟨D, fld, w, n, pv, pre, post, et, ef, ev, hc, EC, XC, hf, hl, hpre, hit⟩ := hw c fs v hv
        obtain ⟨C, o, et2, ec, hi⟩ := hi
        rw [et] at et2
        cases et2
        obtain ⟨dd, p', y, ed, hd, ef2, fl, ry⟩ := hi
        rw [ef] at ef2
        cases ef2
        subst ec ed ev
        refine told_ex x h2 a2 rl hc rfl fun a H7 ka x7 r7 keep kv => ?_
        have nd : dd ≠ D2 := fun e => by rw [e, a2] at hd; cases hd
        have kd := keep dd _ nd hd
        refine ⟨.ref a, rfl, rfl, _, rfl, ?_⟩
        refine errs_hit (v := y) rfl ka kd EC XC hf (by simp [List.lookup]) pre post hl hpre hit fun t ht => ?_
        refine p M' _ (.ref t) (x7.trans (r7.fresh ht).2) (r7.fresh ht).1 ?_
        exact .tup (.inl (.inl upd_at)) (.cons (.str w) (.cons (RV.subF (RV.addF ht (kv _ _ (ry (D2 :: F) M')))) .nil))
theorem wd_of {Z : Fx} {X : Cx} {tab : List (Addr × Option Str)} {CWE : Addr} {qW : Str} {f : Sl → Sto → Rs PV} {l : List ErrC} {word : Nat → List PV → Option PV} {e : Expr} (hK : X.K = Z.K) (hw : WordOk Z.K tab CWE l word)
    (h : PE X e (tWC Z CWE X.K qW X.env.qual ["action", "told", "error", "word", "is_one"] (fun E' => tL Z (exIs Z tab) f E') l)) :
    PE X e (tE Z (exIs Z tab) X fun σ S => match f σ S with
      | .ok v S1 => .ok v S1
      | .ex c fs S1 => ofO (word c fs) S1
      | .bad => .bad) := by
  rw [hK] at h
  exact peI h fun σ H Q ⟨F, M, S, σp, W, a, p⟩ => twc_post (W := W) hw a.r a.sl p
end Ev

set_option Elab.async false
set_option linter.all false
set_option maxRecDepth 100000
set_option maxHeartbeats 1000000
/-! the law's word: WdRule -/
namespace Ev
open PySem PySem.Spec PyProof.Rows L2
/-- what is known of the two defs of a law's word -/
structure WdS (Z : Fx) (mg : Str → Option Value) (base : Heap) (tab : List (Addr × Option Str)) (word : Nat → List PV → Option PV) (w : Str) (ca we : Str) (CWE fC cC PC fw cW PW : Addr) (sC : Scope) (p1 p2 p3 p4 p5 p6 p7 p8 p9 p10 p11 p12 p13 p14 p15 p16 p17 p18 p19 p20 p21 p22 p23 : Pos) (j1 j2 : Nat)     (sW : Scope) (ps2 : Arguments) (sL : Scope) (q5 q6 q7 q8 q9 q10 q11 q12 : Pos) (rest : List Stmt) (l : List ErrC) (r1 r2 r3 r4 r5 r6 r7 r8 r9 r10 r11 r12 r13 : Pos) (i1 i2 : Nat) : Prop where
  all : LDef Z mg base ca (caughtBody we p1 p2 p3 p4 p5 p6 p7 p8 p9 p10 p11 p12 p13 p14 p15 p16 p17 p18 p19 p20 p21 p22 p23 j1 j2) sC ["action", "found", "error"] fC cC PC ∧
    LDef Z mg base w (wordBody (.Call (.Name ca q5) [.Lambda ps2 (toldBody q6 q7 q8 q9 q10) sL q11] [] q12) rest r1 r2 r3 r4 r5 r6 r7 r8 r9 r10 r11 r12 r13 i1 i2) sW ["action", "told", "error", "word", "is_one"] fw cW PW ∧
    ((p9.endLine == p11.line) = true ∧ (q7.endLine == q10.line) = true ∧ sC.names.lookup ("found" : Str) = some .local ∧ sC.names.lookup ("error" : Str) = some .local ∧ sC.names.lookup ("action" : Str) = some .local ∧ sC.names.lookup we = some .globalImplicit ∧ mg we = some (.ref CWE) ∧ (we == ("__debug__" : Str)) = false) ∧
    (LamX.TabB base mg cW PW ∧ (PW, (envOfC w sW 0 fw (.ref cW)).qual ++ "<lambda>") ∈ Z.T ∧ (∀ p ∈ Z.T, p.1 = PW → p.2 = (envOfC w sW 0 fw (.ref cW)).qual ++ "<lambda>") ∧ noPar ps2 = true ∧ LamX.lamSB sW sL = true) ∧
    (Vis sL "action" ∧ Vis sL "told" ∧ sW.names.lookup ca = some .globalImplicit ∧ (ca == ("__debug__" : Str)) = false) ∧
    (sW.names.lookup ("told" : Str) = some .cell ∧ sW.names.lookup ("error" : Str) = some .local ∧ sW.names.lookup ("isinstance" : Str) = some .globalImplicit ∧ mg "isinstance" = none) ∧
    (errsB l rest = true ∧ ∀ t ∈ l, sW.names.lookup t.1 = some .globalImplicit ∧ mg t.1 = some (.ref t.2.2.2) ∧ (t.1 == ("__debug__" : Str)) = false) ∧ WordOk Z.K tab CWE l word
  dw : (w == ("__debug__" : Str)) = false
section
variable {ca we : Str} {CWE fC cC PC fw cW PW : Addr} {sC : Scope} {p1 p2 p3 p4 p5 p6 p7 p8 p9 p10 p11 p12 p13 p14 p15 p16 p17 p18 p19 p20 p21 p22 p23 : Pos} {j1 j2 : Nat}     {sW : Scope} {ps2 : Arguments} {sL : Scope} {q5 q6 q7 q8 q9 q10 q11 q12 : Pos} {rest : List Stmt} {l : List ErrC} {r1 r2 r3 r4 r5 r6 r7 r8 r9 r10 r11 r12 r13 : Pos} {i1 i2 : Nat}
theorem wd_rule {Z : Fx} {X : Cx} {tab : List (Addr × Option Str)} {C : Ctx} {w : Str} {n : Nat} {sc : Scope} {cX PX : Addr} (W : WdS Z X.mg X.base tab C.word w ca we CWE fC cC PC fw cW PW sC p1 p2 p3 p4 p5 p6 p7 p8 p9 p10 p11 p12 p13 p14 p15 p16 p17 p18 p19 p20 p21 p22 p23 j1 j2 sW ps2 sL q5 q6 q7 q8 q9 q10 q11 q12 rest l r1 r2 r3 r4 r5 r6 r7 r8 r9 r10 r11 r12 r13 i1 i2) (hK : X.K = Z.K) (hsc : X.env.scope = sc) (hgu : X.A.guards = some []) (hr : Room (n + 5) X.A)
    (hcX : X.env.code = .ref cX) (TBX : LamX.TabB X.base X.mg cX PX) (hmX : (PX, X.env.qual ++ "<lambda>") ∈ Z.T) (huX : ∀ p ∈ Z.T, p.1 = PX → p.2 = X.env.qual ++ "<lambda>") : WdRule Z (exIs Z tab) C w n sc X := by
  intro f params body scope p lpos pos hp hl hg hb
  obtain ⟨DC, DW, ⟨a1, a2, a3, a4, a5, a6, a7, a8⟩, ⟨b1, b2, b3, b4, b5⟩, ⟨c1, c2, c3, c4⟩, ⟨d1, d2, d3, d4⟩, ⟨e1, e2⟩, wo⟩ := W.all
  have hgw : Gl X w := by
    have h2 := of_decide_eq_true hg
    show X.env.scope.names.lookup w = _
    rw [hsc]
    exact h2
  refine wd_of (qW := (envOfC w sW 0 fw (.ref cW)).qual) hK wo ?_
  exact pe_word (k := n) (tb := fun E' => tL Z (exIs Z tab) f E') hK (by rw [hsc]; exact hl) hp hcX TBX hmX huX hgw W.dw (fun f1 c1 E A outer s' H' hA hR => lam_body (hb A outer s' H' E f1 c1 (by rw [hA]; exact hgu) hR)) DC DW a1 a2 a3 a4 a5 a6 a7 a8 b1 b2 b3 b4 b5 c1 c2 c3 c4 d1 d2 d3 d4 e1 e2 hr
end
end Ev

set_option Elab.async false
set_option linter.all false
set_option maxRecDepth 100000
set_option maxHeartbeats 1000000
/-! what the head tells of own error classes, as Bools; a hook that looks at more objects -/
namespace Ev
open PySem PySem.Spec PyProof.Rows L2
def oexO (C : Addr) : Option Obj → Bool
  | some ⟨.type "type", _, .cls cd, sl⟩ => (match cd.mro, sl.toList with
    | .ref C' :: bm, [_, _, _, _, some (.builtin n), _] => decide (C' = C) && (decide (n = "ValueError.__new__") && (!cd.hasDel && (cd.hasDict && PySem.HandSPX.refsVE bm)))
    | _, _ => false)
  | _ => false
def oexB (K : PySem.W.Frag) (C : Addr) : Bool := oexO C (K.lookup C) && (decide (PySem.W.findIn K (.ref C) "__setattr__" = some (some (.builtin "object.__setattr__"))) && (decide (PySem.W.subIn K (.ref C) (.type "BaseException") = some true) &&
  (decide (PySem.W.typeIn K (.ref C) = some (.type "type")) && PySem.W.keepIn K (.ref C))))
theorem oexO_ok {C : Addr} {o : Option Obj} (h : oexO C o = true) : ∃ nm q N bs bm sn sub ab col dd k0 k1 k2 k3 k5, o = some (excClassObj nm q C N bs bm true sn sub ab col dd k0 k1 k2 k3 k5 "ValueError.__new__") ∧ PySem.HandSPX.refsVE bm = true := by
  unfold oexO at h
  split at h
  · rename_i od cd sl
    split at h
    · rename_i C' bm k0 k1 k2 k3 n k5 hm hs
      simp only [Bool.and_eq_true, decide_eq_true_eq, Bool.not_eq_true'] at h
      obtain ⟨rfl, rfl, h3, h4, h5⟩ := h
      obtain ⟨nm, bs, mro, ns, qn, hd, sn, sub, ab, col, del⟩ := cd
      dsimp only at hm h3 h4
      subst hm h3 h4
      have e : sl = #[k0, k1, k2, k3, some (.builtin "ValueError.__new__"), k5] := by
        obtain ⟨l⟩ := sl
        simp only at hs
        rw [hs]
      subst e
      exact ⟨nm, qn, ns, bs, bm, sn, sub, ab, col, od, k0, k1, k2, k3, k5, rfl, h5⟩
    · cases h
  · cases h
theorem oexB_ok {K : PySem.W.Frag} {C : Addr} (h : oexB K C = true) : OexC K C := by
  unfold oexB at h
  simp only [Bool.and_eq_true, decide_eq_true_eq] at h
  obtain ⟨h1, h2, h3, h4, h5⟩ := h
  exact ⟨oexO_ok h1, h2, h3, h4, h5⟩
def ecB (K : PySem.W.Frag) (D : Addr) : Bool := decide (PySem.W.findIn K (.ref D) "__getattribute__" = some (some (.builtin "BaseException.__getattribute__"))) && (decide (PySem.W.findIn K (.ref D) "__getattr__" = some none) && (decide (PySem.W.subIn K (.ref D) (.type "BaseException") = some true) &&
  (PySem.W.hasDictIn K D && (decide (PySem.W.findIn K (.ref D) "__class__" = some (some (.builtin "object.__class__"))) && (decide (PySem.W.specialIn K (.builtin "object.__class__") "__get__" = some (some (.builtin "getset_descriptor.__get__"))) && (decide (PySem.W.takesIn K (.builtin "object.__class__") = some true) && decide (PySem.W.mroIn K D (.type "object") = some true)))))))
theorem ecB_ok {K : PySem.W.Frag} {D : Addr} (h : ecB K D = true) : ExcC K D := by
  unfold ecB at h
  simp only [Bool.and_eq_true, decide_eq_true_eq] at h
  obtain ⟨h1, h2, h3, h4, h5, h6, h7, h8⟩ := h
  exact ⟨h1, h2, h3, h4, h5, h6, h7, h8⟩
/-! ### an own __init__ with super -/
def codeA (K : PySem.W.Frag) (f : Addr) : Addr := match K.lookup f with
  | some ⟨_, _, .func fd, _⟩ => (match fd.code with
    | .ref c => c
    | _ => 0)
  | _ => 0
def cellA (K : PySem.W.Frag) (f : Addr) : Addr := match K.lookup f with
  | some ⟨_, _, .func fd, _⟩ => (match fd.closure with
    | [(_, a)] => a
    | _ => 0)
  | _ => 0
/-- the function's object, as data without the texts of the program -/
abbrev KsV : Type := Option (Str × Str × Arguments × FuncBody × Scope × Addr × Addr)
def ksV (K : PySem.W.Frag) (f : Addr) : KsV := match K.lookup f with
  | some ⟨_, _, .func fd, _⟩ => some (fd.name, fd.qualname, fd.params, fd.body, fd.scope, fd.globals, fd.builtins)
  | _ => none
def clO (l : List (Str × Addr)) (c : Value) : Bool := match l, c with
  | [(x, _)], .ref _ => decide (x = "__class__")
  | _, _ => false
theorem clO_ok {l : List (Str × Addr)} {c : Value} (h : clO l c = true) : ∃ a b, l = [(("__class__" : Str), a)] ∧ c = .ref b := by
  unfold clO at h
  split at h
  · rename_i x a b
    have ex := of_decide_eq_true h
    subst ex
    exact ⟨a, b, rfl, rfl⟩
  · cases h
def clB (K : PySem.W.Frag) (f : Addr) : Bool := match K.lookup f with
  | some ⟨_, _, .func fd, _⟩ => clO fd.closure fd.code
  | _ => false
def fileB (P : Program) (K : PySem.W.Frag) (c : Addr) : Bool := match K.lookup c with
  | some ⟨_, _, .fields vs, _⟩ => (match (vs[2]? : Option Value) with
    | some (.str file _) => (P.main.file : Str) == file
    | _ => false)
  | _ => false
def cellB (K : PySem.W.Frag) (cc C : Addr) : Bool := match K.lookup cc with
  | some ⟨_, _, .cell (some (.ref D)), _⟩ => decide (D = C)
  | _ => false
theorem fileB_ok {P : Program} {K : PySem.W.Frag} {c : Addr} (h : fileB P K c = true) : ∃ (ccl : Value) (cdd : Option Addr) (vs : Array Value) (ccs : Array (Option Value)) (file : Str) (tf : Tok), K.lookup c = some ⟨ccl, cdd, .fields vs, ccs⟩ ∧ vs[2]? = some (.str file tf) ∧ ((P.main.file : Str) == file) = true := by
  unfold fileB at h
  split at h
  · rename_i e
    split at h
    · rename_i e2
      exact ⟨_, _, _, _, _, _, e, e2, h⟩
    · cases h
  · cases h
theorem cellB_ok {K : PySem.W.Frag} {cc C : Addr} (h : cellB K cc C = true) : ∃ (cl : Value) (cld : Option Addr) (csl : Array (Option Value)), K.lookup cc = some ⟨cl, cld, .cell (some (.ref C)), csl⟩ := by
  unfold cellB at h
  split at h
  · rename_i e
    have := of_decide_eq_true h
    subst this
    exact ⟨_, _, _, e⟩
  · cases h
/-- the class x, its __init__ of the text st, that keeps fld -/
def suB (P : Program) (K : PySem.W.Frag) (C : Addr) (fld qual : Str) (f : Addr) : Bool :=
  oexB K C && (clB K f && (PySem.W.codeIn K (.ref (codeA K f)) qual && (fileB P K (codeA K f) && (cellB K (cellA K f) C && ((PySem.W.clsIn K C).isSome && (decide (PySem.W.mroIn K C (.ref C) = some true) &&
    (decide (PySem.W.ks_superIn K C C "__init__" = some (some (.builtin "ValueError.__init__"))) && (decide (PySem.W.subIn K (.ref C) (.type "ValueError") = some true) && (decide (PySem.W.nsIn K cStatics "thirdparty.any" = some none) &&
    (decide (PySem.W.findIn K (.ref C) fld = some none) && (decide (PySem.W.findIn K (.ref C) "__init__" = some (some (.ref f))) && decide (PySem.W.typeIn K (.ref f) = some (.type "function")))))))))))))
theorem suB_ok {P : Program} {K : PySem.W.Frag} {mg : Str → Option Value} {C : Addr} {fld qual : Str} {f : Addr} {params : Arguments} {body : List Stmt} {scope : Scope} (h : suB P K C fld qual f = true) (hs : mg "super" = none) (ht : (P.main.scope.names.lookup ("super" : Str)).isSome = false)
    (hv : ksV K f = some (("__init__" : Str), qual, params, FuncBody.stmts body, scope, mainGlobals, builtinsNs)) :
    PySem.W.findIn K (.ref C) "__init__" = some (some (.ref f)) ∧ PySem.W.typeIn K (.ref f) = some (.type "function") ∧ ∃ fd, SuC K P mg C f (codeA K f) (cellA K f) fld qual params body scope fd := by
  unfold suB at h
  simp only [Bool.and_eq_true, decide_eq_true_eq] at h
  obtain ⟨h1, hc, h2, h3, h4, h5, h6, h7, h8, h9, h10, h11, h12⟩ := h
  refine ⟨h11, h12, ?_⟩
  unfold ksV at hv
  unfold clB at hc
  cases q : K.lookup f with
  | none => rw [q] at hv; cases hv
  | some o =>
    obtain ⟨oc, od, dt, osl⟩ := o
    rw [q] at hv hc
    cases dt with
    | func fd =>
      obtain ⟨n1, n2, n3, n4, n5, n6, n7, n8, n9, n10, n11, n12, n13, n14, n15⟩ := fd
      have e2 : (some (n1, n2, n3, n4, n5, n6, n15) : KsV) = some (("__init__" : Str), qual, params, FuncBody.stmts body, scope, mainGlobals, builtinsNs) := hv
      simp only [Option.some.injEq, Prod.mk.injEq] at e2
      obtain ⟨a1, a2, a3, a4, a5, a6, a9⟩ := e2
      subst a1 a2 a3 a4 a5 a6 a9
      obtain ⟨a, c, ea, ec⟩ := clO_ok (show clO n7 n13 = true from hc)
      subst ea ec
      have e1 : codeA K f = c := by
        unfold codeA
        rw [q]
      have e3 : cellA K f = a := by
        unfold cellA
        rw [q]
      rw [e1] at h2 h3 ⊢
      rw [e3] at h4 ⊢
      exact ⟨_, oexB_ok h1, ⟨oc, od, n8, n9, n10, n11, n12, n14, osl, rfl, q⟩, h2, fileB_ok h3, cellB_ok h4, h5, h6, hs, h7, h8, h9, h10, ht⟩
    | _ => cases hv
/-! ### its defaults -/
def dflK (K : PySem.W.Frag) (f : Addr) (dvs : List V) : Bool := match K.lookup f with
  | some ⟨_, _, .func fd, _⟩ => He.dflB K fd.defaults dvs
  | _ => false
theorem dflK_ok {K : PySem.W.Frag} {f : Addr} {dvs : List V} {oc : Value} {od : Option Addr} {fd : FuncData} {osl : Array (Option Value)} (h : dflK K f dvs = true) (e : K.lookup f = some ⟨oc, od, .func fd, osl⟩) : DflV K fd.defaults dvs := by
  unfold dflK at h
  rw [e] at h
  exact He.dflB_ok h
theorem binds_dfl {K : PySem.W.Frag} {name qual : Str} {params : Arguments} {body : List Stmt} {scope : Scope} {dV kV doc pm : Value} {an : Option Addr} {cdv ct : Value} {cc : Addr} {dvs : List V} {ps : List Str} (hD : DflV K dV dvs) (hd : dvs ≠ [])
    (h : ∀ (T : Addr) (us its : List Value), us.length = ps.length → its.length = dvs.length → ∃ k, bindArgs (PySem.W.ksFn name qual params body scope (.ref T) kV doc pm an cdv ct cc) ⟨us, []⟩ = seqItems? (.ref T) >>= k ∧ k (some its.toArray) = pure (ps.zip us)) :
    Binds K (PySem.W.ksFn name qual params body scope dV kV doc pm an cdv ct cc) ps [] := by
  rcases hD with ⟨e, _⟩ | ⟨_, T, o, its, m, rfl, lT, oT, rT⟩
  · exact absurd e hd
  · intro s us X hlen
    rw [List.append_nil] at hlen ⊢
    obtain ⟨k, e1, e2⟩ := h T us its hlen rT.length.symm
    refine BindsTo.of_looks fun M => ?_
    rw [e1]
    exact looks_items X lT oT (.of_pure e2)
/-! ### no list stands in what is looked at -/
def isLst (o : Obj) : Bool := match o.cls with
  | .type t => decide (t = "list")
  | _ => false
def noLst (K : PySem.W.Frag) : Bool := K.all fun q => !isLst q.2
theorem noLst_ok {K : PySem.W.Frag} (h : noLst K = true) {a : Addr} {o : Obj} (e : K.lookup a = some o) (hc : o.cls = .type "list") : False := by
  have h2 := List.all_eq_true.mp h (a, o) (He.lookup_mem e)
  have h3 : isLst o = true := by
    unfold isLst
    rw [hc]
    rfl
  rw [h3] at h2
  cases h2
/-! ### the hook -/
abbrev AlZ : Type := He.AlD × Bool × List KsV
def frZ (n : Nat) (g : Addr → Option Obj) : PySem.W.Frag := He.frT g (cStatics :: He.asD g n)
/-- what is looked at: defs with code objects and tables ts; own __init__s ks; the Bool ex -/
structure Lkd where
  fa : List He.Fa
  fn : List He.DefD
  ts : List He.Defn
  ks : List (He.Defn × KsV)
  ex : PySem.W.Frag → Bool
def obsK (L : Lkd) (g : Addr → Option Obj) (K : PySem.W.Frag) : AlZ := (He.obsD L.fa L.fn K, L.ex K && He.tabsB g L.ts K, L.ks.map fun p => ksV K (He.fAd K p.1))
def obsZ (L : Lkd) (n : Nat) (g : Addr → Option Obj) : AlZ := obsK L g (frZ n g)
def valZ (L : Lkd) : AlZ := (He.valD L.fn, true, L.ks.map (·.2))
structure SaysZ (L : Lkd) (h : Heap) (K : PySem.W.Frag) : Prop where
  d : He.SaysD L.fa L.fn K
  ex : L.ex K = true
  ks : ∀ p ∈ L.ks, ksV K (He.fAd K p.1) = p.2
  hd : ∀ p ∈ L.ts, PySem.W.codeHdIn K (He.cT K p).1 (He.cT K p).2 = true
  out : ∀ p ∈ L.ts, K.lookup (He.cT K p).2 = none
  empty : ∀ p ∈ L.ts, h.get? (He.cT K p).2 = some { cls := .none, data := .fields #[] }
theorem map_at {α β : Type} {f g : α → β} : ∀ {l : List α}, l.map f = l.map g → ∀ p ∈ l, f p = g p
  | a :: r, h, p, hp => by
    have h2 : f a = g a ∧ r.map f = r.map g := by simpa using h
    rcases List.mem_cons.mp hp with e | e
    · rw [e]
      exact h2.1
    · exact map_at h2.2 p e
theorem saysZ_of {L : Lkd} {n : Nat} {h : Heap} (e : obsZ L n h.get? = valZ L) : SaysZ L h (frZ n h.get?) := by
  obtain ⟨e1, e2⟩ := Prod.mk.inj e
  obtain ⟨e2, e3⟩ := Prod.mk.inj e2
  obtain ⟨h1, h2⟩ := Bool.and_eq_true_iff.mp e2
  have all : ∀ p ∈ L.ts, PySem.W.codeHdIn (frZ n h.get?) (He.cT (frZ n h.get?) p).1 (He.cT (frZ n h.get?) p).2 = true ∧ ∃ ob, h.get? (He.cT (frZ n h.get?) p).2 = some ob ∧ He.emptyTab ob = true := by
    intro p hp
    obtain ⟨a, b⟩ := Bool.and_eq_true_iff.mp (List.all_eq_true.mp h2 p hp)
    refine ⟨a, ?_⟩
    split at b
    · rename_i ob q
      exact ⟨ob, q, b⟩
    · cases b
  refine ⟨e1, h1, map_at e3, fun p hp => (all p hp).1, fun p hp => ?_, fun p hp => ?_⟩
  · obtain ⟨_, ob, q, z⟩ := all p hp
    exact He.frT_none q z
  · obtain ⟨_, ob, q, z⟩ := all p hp
    rw [q, He.emptyTab_eq z]
def hookZ (L : Lkd) (n : Nat) : PySem.W.Hook where
  α := AlZ
  obs := fun s => obsZ L n s.heap.get?
  val := fun _ => valZ L
  says := fun _ h => ∃ K : PySem.W.Frag, K.In h ∧ SaysZ L h K
  of := fun _ _ e => ⟨frZ n _, He.frT_in, saysZ_of e⟩
  keeps := fun _ _ _ ⟨K, hK, c⟩ k => ⟨K, hK.keeps k, c.d, c.ex, c.ks, c.hd, c.out, fun p hp => k _ _ (c.empty p hp)⟩
theorem obsZ_eq {L : Lkd} {n : Nat} {g : Addr → Option Obj} {s : Shared} (h : ∀ a, g a = s.heap.get? a) : obsZ L n g = (hookZ L n).obs s := by
  have e := funext h
  subst e
  rfl
end Ev

set_option Elab.async false
set_option linter.all false
set_option maxRecDepth 100000
set_option maxHeartbeats 2000000
/-! the end: the law called from the claim's caller, its def known to run there -/
namespace Ev
open PySem PySem.Spec PyProof.Rows L2 LamX
theorem no_cx {P : Program} {w : World} {H : Hp} {s : Shared} {e : Value} {s' : Shared} (h : L2.CX P w [] H s (fun _ _ _ => False) e s') : False := by
  obtain ⟨_, _, _, _, _, _, _, _, _, _, _, _, hf⟩ := h; exact hf
theorem law_callR {P : Program} {w : World} {K : PySem.W.Frag} {mg mB : Str → Option Value} {fA sc : Addr} {tbs : List (Addr × Addr)} {sA : Shared} {vals : List Value} {zints : List Int}
    (kIn : K.In sA.heap) (hNs : sA.heap.Ns mainGlobals mg) (hBs : sA.heap.Ns builtinsNs mB) (hBoot : ∀ x : Str, x ≠ "__name__" → mB x = bootBuiltins x) (hLim : sA.heap.NoLimit) (hGens : sA.gens = #[])
    (tEmpty : ∀ p ∈ tbs, sA.heap.get? p.2 = some { cls := .none, data := .fields #[] }) (tOut : ∀ p ∈ tbs, K.lookup p.2 = none) (tCode : ∀ p ∈ tbs, PySem.W.CodeHd sA.heap p.1 p.2)
    (hMain : ∃ (bMod : Addr) (bObj : Obj), mg "__builtins__" = some (.ref bMod) ∧ bMod ≠ builtinsNs ∧ sA.heap.get? bMod = some bObj ∧ bObj.cls = .type "module" ∧ bObj.dict = some builtinsNs ∧ bObj.data = .plain)
    (hLst : sA.heap.get? sc = some { cls := .type "list", data := .seq vals.toArray }) (hInts : IntsAre vals zints) (hLen : zints.length ≤ sizeLine)
    (hRun : ∀ base : Heap, K.In base → base.Ns mainGlobals mg → (∀ p ∈ tbs, TabB base mg p.1 p.2) → ∀ H : Hp, Env0 P w K mg base callerA [] sA H → (∀ p ∈ tbs, H p.2 = some (.tbl #[])) → SqL K H sc (zints.map V.int) →
      codeAny (model P w) callerA (.call (.ref fA) ⟨[.ref sc], []⟩) (CR (L2.CX P w) [] P w H sA (fun v _ => v = .bl true) fun _ _ _ => False) sA) :
    codeAny (model P w) callerA (.call (.ref fA) ⟨[.ref sc], []⟩) (fun r sB => r = .ok (.ret (.bool true)) ∧ OldK sA.heap sB.heap ∧ sB.os = sA.os ∧ AllBare sB.gens) sA := by
  have rvs := vals_ints hInts
  have lenVs := hInts.length
  have tAt : ∀ ad : Addr, ad ∈ tbs.map (·.2) → sA.heap.get? ad = some { cls := .none, data := .fields #[] } := fun ad hBs => by
    obtain ⟨p, hMem, e⟩ := List.mem_map.mp hBs
    rw [← e]
    exact tEmpty p hMem
  have aOut : sc ∉ tbs.map (·.2) := fun z => by
    have q := tAt sc z
    rw [hLst] at q
    have z' : Data.seq vals.toArray _ = Data.fields #[] := congrArg Obj.data (Option.some.inj q)
    cases z'
  have tMem : ∀ p ∈ tbs, p.2 ∈ tbs.map (·.2) := fun p hMem => List.mem_map.mpr ⟨p, hMem, rfl⟩
  -- from an abstract heap in which nothing but the script and the tables may be tracked
  have fromH : ∀ H : Hp, (∀ p ∈ tbs, H p.2 = some (.tbl #[])) → (∀ ad, H ad = none ∨ ad ∈ tbs.map (·.2) ∨ ∃ obj xs, H ad = some (.frz obj (.lst xs))) → SqL K H sc (zints.map V.int) → HOk P w H sA.heap → (∀ ad, H ad ≠ none → ad = sc ∨ ad ∈ tbs.map (·.2)) → (H sc ≠ none → K.lookup sc = none) →
      codeAny (model P w) callerA (.call (.ref fA) ⟨[.ref sc], []⟩) (fun r sB => r = .ok (.ret (.bool true)) ∧ OldK sA.heap sB.heap ∧ sB.os = sA.os ∧ AllBare sB.gens) sA := by
    intro H hTab hOnly hSq hOk hWhere hNone
    have offH : ∀ {ad : Addr} {obj : Obj}, sA.heap.get? ad = some obj → H ad = none → (hidT sA.heap H).get? ad = some obj := fun e n => hidT_get e n
    have notD : ∀ {ad : Addr} {obj : Obj}, sA.heap.get? ad = some obj → (∀ vals n, obj.data ≠ .seq vals n) → obj.data ≠ .fields #[] → H ad = none := fun {ad obj} e h1 h2 => by
      cases q : H ad with
      | none => rfl
      | some un0 =>
        rcases hWhere ad (by rw [q]; simp) with e' | e'
        · rw [e', hLst] at e
          cases e
          exact (h1 _ _ rfl).elim
        · rw [tAt ad e'] at e
          cases e
          exact (h2 rfl).elim
    have notDict : ∀ {ad : Addr} {obj : Obj} {ents : Array DictEntry} {ePos : Nat}, sA.heap.get? ad = some obj → obj.data = .dict ents ePos → H ad = none := fun {ad obj ents ePos} e d => by
      refine notD e (fun vals n z => ?_) fun z => ?_
      · rw [d] at z
        cases z
      · rw [d] at z
        cases z
    have nsOf : ∀ {ad : Addr} {m : Str → Option Value}, sA.heap.Ns ad m → (hidT sA.heap H).Ns ad m := fun {ad m} ⟨obj, ents, ePos, e, d, r⟩ => ⟨obj, ents, ePos, offH e (notDict e d), d, r⟩
    have kBase : K.In (hidT sA.heap H) := fun ad obj e => offH (kIn ad obj e) (by
      cases q : H ad with
      | none => rfl
      | some un0 =>
        rcases hWhere ad (by rw [q]; simp) with e' | e'
        · rw [e'] at e q
          rw [hNone (by rw [q]; simp)] at e
          cases e
        · obtain ⟨p, hMem, ePos⟩ := List.mem_map.mp e'
          rw [← ePos, tOut p hMem] at e
          cases e)
    have mBase : L2.Mod K mg (hidT sA.heap H) := ⟨kBase, nsOf hNs, ⟨mB, nsOf hBs, hBoot⟩, hLim.elim fun mc hh => ⟨mc, nsOf hh.1, hh.2⟩⟩
    have tBase : ∀ p ∈ tbs, TabB (hidT sA.heap H) mg p.1 p.2 := fun p hMem => by
      have hTp0 := tEmpty p hMem
      refine ⟨?_, ?_, fun z => ?_⟩
      · obtain ⟨obj, us, file, tf, flags, tg, inF, text, tt, e1, r1, r2, r3, r4, r5, r6, r7, r8, hne⟩ := tCode p hMem
        refine ⟨obj, us, file, tf, flags, tg, inF, text, tt, offH e1 (notD e1 (fun vals n z => ?_) fun z => ?_), r1, r2, r3, r4, r5, r6, r7, r8, hne⟩
        · rw [r2] at z
          cases z
        · rw [r2] at z
          cases z
          simp at r3
      · obtain ⟨bMod, bObj, b1, b2, b3, b4, b5, b6⟩ := hMain
        have nG : bMod ≠ mainGlobals := fun q => by
          obtain ⟨obj, ents, ePos, e, hd, _⟩ := hNs
          rw [q, e] at b3
          cases b3
          rw [hd] at b6
          cases b6
        have nP : bMod ≠ p.2 := fun q => by
          rw [q, hTp0] at b3
          cases b3
          cases b6
        refine ⟨bMod, bObj, b1, b2, nG, nP, offH b3 (notD b3 (fun vals n z => ?_) fun z => ?_), b4, b5, b6⟩
        · rw [b6] at z
          cases z
        · rw [b6] at z
          cases z
      · obtain ⟨obj, ents, ePos, e, hd, _⟩ := hNs
        rw [z, hTp0] at e
        cases e
        cases hd
    have env0 : Env0 P w K mg (hidT sA.heap H) callerA [] sA H := ⟨rfl, mBase, fun ad obj e => of_hidT e, Nat.le_of_eq (hidT_size _ _), trivial, fun ad hBs => absurd (show ad ∈ ([] : List Addr) from hBs) (by simp), hOk, .of_eq hGens⟩
    refine codeAny_mono (hRun _ kBase (nsOf hNs) tBase H env0 hTab hSq) fun r sB h => ?_
    cases r with
    | error e => exact (no_cx h).elim
    | ok fl =>
      cases fl with
      | next => exact False.elim h
      | brk => exact False.elim h
      | cont => exact False.elim h
      | ret un0 =>
        obtain ⟨v, H1, os, bare, unt, hOk1, r', q⟩ := h
        have q' : v = .bl true := q
        subst q'
        obtain rfl : un0 = Value.bool true := r'
        have kept0 : ∀ ad obj, ad ∉ tbs.map (·.2) → sA.heap.get? ad = some obj → sB.heap.get? ad = some obj := fun ad obj nb e => by
          cases q : H ad with
          | none => exact unt.keep ad obj e q (by intro z; exact absurd (show ad ∈ ([] : List Addr) from z) (by simp)) (by simp)
          | some un0 =>
            rcases hOnly ad with z | z | ⟨bObj, xs, z⟩
            · rw [q] at z; cases z
            · exact absurd z nb
            · have z2 := unt.frzs ad bObj _ z
              obtain ⟨e1, _⟩ := hOk ad _ z
              obtain ⟨e2, _⟩ := hOk1 ad _ z2
              rw [e] at e1; cases e1
              exact e2
        have grew : ∀ p ∈ tbs, ∃ more : Array Value, sB.heap.get? p.2 = some { cls := .none, data := .fields more } := fun p hMem => by
          obtain ⟨more, z⟩ := unt.tbls p.2 #[] (hTab p hMem)
          exact ⟨_, hOk1 p.2 _ z⟩
        refine ⟨rfl, ⟨fun ad obj e => ?_, fun ad obj e => ?_⟩, os, bare⟩
        · by_cases hBs : ad ∈ tbs.map (·.2)
          · obtain ⟨p, hMem, ePos⟩ := List.mem_map.mp hBs
            obtain ⟨more, hm⟩ := grew p hMem
            rw [← ePos] at e ⊢
            rw [tEmpty p hMem] at e
            cases e
            exact .inr (.inl ⟨((tCode p hMem).tab (tEmpty p hMem)).isCodeTable, rfl, #[], more, rfl, by rw [Array.empty_append]; exact hm⟩)
          · exact .inl (kept0 ad obj hBs e)
        · by_cases hBs : ad ∈ tbs.map (·.2)
          · obtain ⟨p, hMem, ePos⟩ := List.mem_map.mp hBs
            obtain ⟨more, hm⟩ := grew p hMem
            rw [← ePos]
            exact ⟨_, hm⟩
          · exact ⟨obj, kept0 ad obj hBs e⟩
  cases hk : K.lookup sc with
  | some obj =>
    have e := kIn sc obj hk
    rw [hLst] at e
    cases e
    refine fromH (fun ad => if ad ∈ tbs.map (·.2) then some (.tbl #[]) else none) (fun p hMem => if_pos (tMem p hMem)) (fun ad => ?_) (.inr ⟨_, vals.toArray, _, hk, rfl, rfl, rfl, by rw [List.size_toArray, lenVs]; exact hLen, by simpa using rvs⟩) (fun ad un0 z => ?_) (fun ad z => ?_) fun z => absurd (show (if sc ∈ tbs.map (·.2) then some (HO.tbl #[]) else none) = none from if_neg aOut) z
    · by_cases hBs : ad ∈ tbs.map (·.2)
      · exact .inr (.inl hBs)
      · exact .inl (if_neg hBs)
    · by_cases hBs : ad ∈ tbs.map (·.2)
      · have z' := (if_pos hBs).symm.trans z
        cases z'
        exact tAt ad hBs
      · have z' := (if_neg hBs).symm.trans z
        cases z'
    · by_cases hBs : ad ∈ tbs.map (·.2)
      · exact .inr hBs
      · exact absurd (if_neg hBs) z
  | none =>
    refine fromH (fun ad => if ad = sc then some (.frz { cls := .type "list", data := .seq vals.toArray } (.lst (zints.map V.int))) else if ad ∈ tbs.map (·.2) then some (.tbl #[]) else none) (fun p hMem => (if_neg (show ¬ p.2 = sc from fun z => aOut (by rw [← z]; exact tMem p hMem))).trans (if_pos (tMem p hMem))) (fun ad => ?_)
      (.inl (.inr ⟨{ cls := .type "list", data := .seq vals.toArray }, if_pos rfl⟩)) (fun ad un0 z => ?_) (fun ad z => ?_) fun _ => hk
    · by_cases hBs : ad = sc
      · exact .inr (.inr ⟨_, _, if_pos hBs⟩)
      · by_cases hb2 : ad ∈ tbs.map (·.2)
        · exact .inr (.inl hb2)
        · exact .inl ((if_neg hBs).trans (if_neg hb2))
    · by_cases hBs : ad = sc
      · have z' := (if_pos hBs).symm.trans z
        cases z'
        rw [hBs]
        exact ⟨hLst, by rw [List.length_map]; exact hLen, vals, _, rvs, hLst⟩
      · have z1 := (if_neg hBs).symm.trans z
        by_cases hb2 : ad ∈ tbs.map (·.2)
        · have z' := (if_pos hb2).symm.trans z1
          cases z'
          exact tAt ad hb2
        · have z' := (if_neg hb2).symm.trans z1
          cases z'
    · by_cases hBs : ad = sc
      · exact .inl hBs
      · by_cases hb2 : ad ∈ tbs.map (·.2)
        · exact .inr hb2
        · exact absurd ((if_neg hBs).trans (if_neg hb2)) z

end Ev

set_option Elab.async false
set_option linter.all false
set_option maxRecDepth 100000
set_option maxHeartbeats 0
/-! k88: the small language's text -/
namespace Ev.K88
open PySem L2 Ev
def b_is_word : ISs := (.cons (.ret (.band (.isi (.var 0) .str) (.band (.cmp .ne (.var 0) (.cst (.str (Str.ofString "")))) (.bi .all (.lc false [1] (.one 1) (.seq (.var 0)) .none (.cmp .isin (.var 1) (.gl 3)))))))
    .nil)
def b_is_figure : ISs := (.cons (.ret (.band (.isi (.var 0) .int) (.band (.not (.isi (.var 0) .bool)) (.cmp .lt (.bi .abs (.var 0)) (.gl 2)))))
    .nil)
def b_is_value : ISs := (.cons (.asg 1 (.lst false (.cons (.var 0) .nil)))
    (.cons (.for (.one 2) (.rng (.gl 0)) (.cons (.asg 3 (.lst true .nil))
    (.cons (.for (.one 4) (.seq (.var 1)) (.cons (.ifs (.band (.isi (.var 4) .tup) (.cmp .lt (.var 2) (.bin .sub (.gl 0) (.cst (.int 1))))) (.cons (.expr (.meth .extend (.var 3) (.cons (.var 4) .nil)))
    .nil) (.cons (.ifs (.band (.cmp .notN (.var 4) (.cst .non)) (.band (.not (.call 0 (.cons (.var 4) .nil))) (.not (.call 1 (.cons (.var 4) .nil))))) (.cons (.ret (.cst (.bl false)))
    .nil) .nil)
    .nil))
    .nil))
    (.cons (.ifs (.cmp .eq (.var 3) (.lst false .nil)) (.cons (.ret (.cst (.bl true)))
    .nil) .nil)
    (.cons (.asg 1 (.var 3))
    .nil)))))
    (.cons (.ret (.cst (.bl false)))
    .nil)))
def b_value_text : ISs := (.cons (.ifs (.not (.call 2 (.cons (.var 0) .nil))) (.cons (.raise 0 (.cons (.cst (.str (Str.ofString "no value"))) (.cons (.cst (.int 0)) .nil)))
    .nil) .nil)
    (.cons (.par [1, 2] (.cons (.lst true .nil) (.cons (.lst true (.cons (.var 0) .nil)) .nil)))
    (.cons (.whl (.cmp .ne (.var 2) (.lst false .nil)) (.cons (.asg 3 (.meth .pop (.var 2) .nil))
    (.cons (.ifs (.isi (.var 3) .lst) (.cons (.expr (.meth .append (.var 1) (.cons (.idx (.var 3) (.cst (.int 0))) .nil)))
    .nil) (.cons (.ifs (.isi (.var 3) .tup) (.cons (.expr (.meth .append (.var 2) (.cons (.lst false (.cons (.cst (.str (Str.ofString ")"))) .nil)) .nil)))
    (.cons (.for (.many [4, 5]) (.enr (.var 3)) (.cons (.expr (.meth .extend (.var 2) (.cons (.ife (.cmp .eq (.var 4) (.bin .sub (.bi .len (.var 3)) (.cst (.int 1)))) (.lst true (.cons (.var 5) .nil)) (.lst true (.cons (.var 5) (.cons (.lst false (.cons (.cst (.str (Str.ofString " "))) .nil)) .nil)))) .nil)))
    .nil))
    (.cons (.expr (.meth .append (.var 2) (.cons (.lst false (.cons (.cst (.str (Str.ofString "("))) .nil)) .nil)))
    .nil))) (.cons (.expr (.meth .append (.var 1) (.cons (.ife (.cmp .isN (.var 3) (.cst .non)) (.cst (.str (Str.ofString "-"))) (.bi .str (.var 3))) .nil)))
    .nil))
    .nil))
    .nil)))
    (.cons (.ret (.meth .join (.cst (.str (Str.ofString ""))) (.cons (.var 1) .nil)))
    .nil))))
def b_pieces_of : ISs := (.cons (.par [1, 2] (.cons (.lst true .nil) (.cons (.cst (.int 0)) .nil)))
    (.cons (.whl (.cmp .lt (.var 2) (.bi .len (.var 0))) (.cons (.asg 3 (.bin .add (.var 2) (.cst (.int 1))))
    (.cons (.ifs (.cmp .notin (.idx (.var 0) (.var 2)) (.cst (.str (Str.ofString "() ")))) (.cons (.whl (.band (.cmp .lt (.var 3) (.bi .len (.var 0))) (.cmp .notin (.idx (.var 0) (.var 3)) (.cst (.str (Str.ofString "() "))))) (.cons (.aug 3 .add (.cst (.int 1)))
    .nil))
    .nil) .nil)
    (.cons (.expr (.meth .append (.var 1) (.cons (.slc false (.var 0) (.some (.var 2)) (.some (.var 3))) .nil)))
    (.cons (.asg 2 (.var 3))
    .nil)))))
    (.cons (.ret (.var 1))
    .nil)))
def b_plain_of : ISs := (.cons (.ifs (.cmp .eq (.var 0) (.cst (.str (Str.ofString "-")))) (.cons (.ret (.lst false (.cons (.cst .non) .nil)))
    .nil) .nil)
    (.cons (.ifs (.call 0 (.cons (.var 0) .nil)) (.cons (.ret (.lst false (.cons (.var 0) .nil)))
    .nil) .nil)
    (.cons (.asg 1 (.ife (.cmp .eq (.slc false (.var 0) .none (.some (.cst (.int 1)))) (.cst (.str (Str.ofString "-")))) (.slc false (.var 0) (.some (.cst (.int 1))) .none) (.var 0)))
    (.cons (.ifs (.bor (.not (.chain .le .le (.cst (.int 1)) (.bi .len (.var 1)) (.gl 1))) (.not (.bi .all (.lc false [2] (.one 2) (.seq (.var 1)) .none (.cmp .isin (.var 2) (.gl 4)))))) (.cons (.ret (.lst false .nil))
    .nil) .nil)
    (.cons (.ret (.ife (.cmp .eq (.bi .str (.bi .int (.var 0))) (.var 0)) (.lst false (.cons (.bi .int (.var 0)) .nil)) (.lst false .nil)))
    .nil)))))
def b_value_of : ISs := (.cons (.par [2, 3] (.cons (.lst true .nil) (.cons (.lst true .nil) .nil)))
    (.cons (.for (.one 1) (.seq (.var 0)) (.cons (.ifs (.cmp .eq (.var 1) (.cst (.str (Str.ofString "(")))) (.cons (.expr (.meth .append (.var 2) (.cons (.lst true .nil) .nil)))
    (.cons .cont
    .nil)) .nil)
    (.cons (.ifs (.cmp .eq (.var 1) (.cst (.str (Str.ofString " ")))) (.cons .cont
    .nil) .nil)
    (.cons (.ifs (.cmp .eq (.var 1) (.cst (.str (Str.ofString ")")))) (.cons (.ifs (.cmp .eq (.var 2) (.lst true .nil)) (.cons (.ret (.lst true .nil))
    .nil) .nil)
    (.cons (.asg 4 (.lst true (.cons (.bi .tuple (.meth .pop (.var 2) .nil)) .nil)))
    .nil)) (.cons (.asg 4 (.call 5 (.cons (.var 1) .nil)))
    .nil))
    (.cons (.ifs (.bor (.cmp .eq (.var 4) (.lst true .nil)) (.band (.cmp .eq (.var 2) (.lst true .nil)) (.cmp .ne (.var 3) (.lst true .nil)))) (.cons (.ret (.lst true .nil))
    .nil) .nil)
    (.cons (.ifs (.cmp .eq (.var 2) (.lst true .nil)) (.cons (.asg 3 (.var 4))
    .nil) (.cons (.expr (.meth .append (.idx (.var 2) (.cst (.int (-1)))) (.cons (.idx (.var 4) (.cst (.int 0))) .nil)))
    .nil))
    .nil))))))
    (.cons (.ret (.ife (.cmp .eq (.var 2) (.lst true .nil)) (.var 3) (.lst true .nil)))
    .nil)))
def b_read_value : ISs := (.cons (.ifs (.not (.isi (.var 0) .str)) (.cons (.raise 0 (.cons (.cst (.str (Str.ofString "no text"))) (.cons (.cst (.int 0)) .nil)))
    .nil) .nil)
    (.cons (.asg 1 (.call 6 (.cons (.call 4 (.cons (.var 0) .nil)) .nil)))
    (.cons (.ifs (.bor (.cmp .eq (.var 1) (.lst false .nil)) (.bor (.not (.call 2 (.cons (.idx (.var 1) (.cst (.int 0))) .nil))) (.cmp .ne (.call 3 (.cons (.idx (.var 1) (.cst (.int 0))) .nil)) (.var 0)))) (.cons (.raise 0 (.cons (.cst (.str (Str.ofString "no text of a value"))) (.cons (.cst (.int 0)) .nil)))
    .nil) .nil)
    (.cons (.ret (.idx (.var 1) (.cst (.int 0))))
    .nil))))
def b__law_begun : ISs := (.cons (.asg 1 (.lc true [2] (.one 2) (.seq (.var 0)) (.some (.cmp .ge (.bi .abs (.var 2)) (.bin .pow (.cst (.int 10)) (.cst (.int 18))))) (.bin .sub (.bi .abs (.var 2)) (.bin .pow (.cst (.int 10)) (.cst (.int 18))))))
    (.cons (.ret (.dict [Str.ofString "great", Str.ofString "cells", Str.ofString "rest", Str.ofString "turn"] (.cons (.var 1) (.cons (.lc false [2] (.one 2) (.seq (.var 0)) .none (.bi .abs (.var 2))) (.cons (.cst (.int 0)) (.cons (.cst (.int 0)) .nil))))))
    .nil))
def b__law_mixed : ISs := (.cons (.par [2, 3] (.cons (.bin .add (.idx (.var 0) (.cst (.str (Str.ofString "turn")))) (.cst (.int 1))) (.cons (.cst (.int 0)) .nil)))
    (.cons (.sub (.var 0) (.cst (.str (Str.ofString "turn"))) (.var 2))
    (.cons (.for (.one 1) (.seq (.lst false (.cons (.cst (.int 2147483629)) (.cons (.cst (.int 2147483587)) (.cons (.cst (.int 2147483579)) (.cons (.cst (.int 2147483563)) .nil)))))) (.cons (.asg 4 (.bin .add (.bin .mul (.cst (.int 69621)) (.var 2)) (.bin .fdiv (.var 1) (.cst (.int 41)))))
    (.cons (.for (.one 5) (.seq (.idx (.var 0) (.cst (.str (Str.ofString "cells"))))) (.cons (.asg 4 (.bin .mod (.bi .int (.bin .add (.bin .add (.bin .mul (.var 4) (.cst (.int 48271))) (.var 5)) (.var 2))) (.var 1)))
    .nil))
    (.cons (.asg 3 (.bin .add (.bin .mul (.var 3) (.cst (.int 2147483659))) (.bin .mod (.bi .int (.bin .pow (.var 4) (.cst (.int 5)))) (.var 1))))
    .nil))))
    (.cons (.ret (.var 3))
    .nil))))
def b__law_draw : ISs := (.cons (.ifs (.cmp .eq (.idx (.var 0) (.cst (.str (Str.ofString "rest")))) (.cst (.int 0))) (.cons (.sub (.var 0) (.cst (.str (Str.ofString "rest"))) (.ife (.cmp .ne (.idx (.var 0) (.cst (.str (Str.ofString "great")))) (.lst false .nil)) (.meth .popAt (.idx (.var 0) (.cst (.str (Str.ofString "great")))) (.cons (.cst (.int 0)) .nil)) (.call 9 (.cons (.var 0) .nil))))
    .nil) .nil)
    (.cons (.asg 2 (.bin .mod (.bi .int (.idx (.var 0) (.cst (.str (Str.ofString "rest"))))) (.var 1)))
    (.cons (.sub (.var 0) (.cst (.str (Str.ofString "rest"))) (.bin .fdiv (.idx (.var 0) (.cst (.str (Str.ofString "rest")))) (.var 1)))
    (.cons (.ret (.var 2))
    .nil))))
def b__law_pick : ISs := (.cons (.ret (.idx (.var 1) (.call 10 (.cons (.var 0) (.cons (.bi .len (.var 1)) .nil)))))
    .nil)
def b__law_plain : ISs := (.cons (.ifs (.isis (.var 0) [.lst, .tup]) (.cons (.ret (.cmp .eq (.lc false [1] (.one 1) (.seq (.var 0)) (.some (.not (.call 12 (.cons (.var 1) .nil)))) (.cst (.int 1))) (.lst false .nil)))
    .nil) .nil)
    (.cons (.ifs (.isi (.var 0) .dct) (.cons (.ret (.call 12 (.cons (.lof false .never) .nil)))
    .nil) .nil)
    (.cons (.ret (.bor (.cmp .isN (.var 0) (.cst .non)) (.isis (.var 0) [.int, .str])))
    .nil)))
def b__law_is : ISs := (.cons (.ret (.band (.call 12 (.cons (.var 0) .nil)) (.band (.cmp .eq (.var 0) (.var 1)) (.band (.cmp .eq (.var 1) (.var 0)) (.cmp .eq (.bi .repr (.var 0)) (.bi .repr (.var 1)))))))
    .nil)
def b__law_value_text : ISs := (.cons (.ifs (.isi (.var 0) .tup) (.cons (.ret (.bin .add (.bin .add (.cst (.str (Str.ofString "("))) (.meth .join (.cst (.str (Str.ofString " "))) (.cons (.lc false [1] (.one 1) (.seq (.var 0)) .none (.call 14 (.cons (.var 1) .nil))) .nil))) (.cst (.str (Str.ofString ")")))))
    .nil) .nil)
    (.cons (.ret (.ife (.cmp .isN (.var 0) (.cst .non)) (.cst (.str (Str.ofString "-"))) (.bi .str (.var 0))))
    .nil))
def b__law_some_value : ISs := (.cons (.asg 2 (.ife (.cmp .gt (.var 1) (.cst (.int 0))) (.call 10 (.cons (.var 0) (.cons (.cst (.int 6)) .nil))) (.call 10 (.cons (.var 0) (.cons (.cst (.int 3)) .nil)))))
    (.cons (.ifs (.cmp .eq (.var 2) (.cst (.int 0))) (.cons (.ret (.call 11 (.cons (.var 0) (.cons (.lst false (.cons (.cst (.str (Str.ofString "a"))) (.cons (.cst (.str (Str.ofString "on"))) (.cons (.cst (.str (Str.ofString "zz"))) (.cons (.cst (.str (Str.ofString "entry"))) (.cons (.cst (.str (Str.ofString "abcdefghijklm"))) .nil)))))) .nil))))
    .nil) .nil)
    (.cons (.ifs (.cmp .eq (.var 2) (.cst (.int 1))) (.cons (.ret (.call 11 (.cons (.var 0) (.cons (.lst false (.cons (.cst (.int 0)) (.cons (.cst (.int 1)) (.cons (.bin .sub (.cst (.int 0)) (.cst (.int 1))) (.cons (.cst (.int 7)) (.cons (.bin .sub (.cst (.int 0)) (.cst (.int 42))) (.cons (.cst (.int 999999999999)) (.cons (.bin .sub (.cst (.int 0)) (.cst (.int 999999999999))) .nil)))))))) .nil))))
    .nil) .nil)
    (.cons (.ifs (.cmp .eq (.var 2) (.cst (.int 2))) (.cons (.ret (.cst .non))
    .nil) .nil)
    (.cons (.ret (.bi .tuple (.lc false [3] (.one 3) (.rng (.call 10 (.cons (.var 0) (.cons (.cst (.int 4)) .nil)))) .none (.call 15 (.cons (.var 0) (.cons (.bin .sub (.var 1) (.cst (.int 1))) .nil))))))
    .nil)))))
def b__law_nested : ISs := (.cons (.for (.one 2) (.rng (.var 0)) (.cons (.asg 1 (.tup (.cons (.var 1) .nil)))
    .nil))
    (.cons (.ret (.var 1))
    .nil))
def b_law : ISs := (.cons (.asg 1 (.call 8 (.cons (.var 0) .nil)))
    (.cons (.for (.one 2) (.seq (.lst false (.cons (.cst (.str (Str.ofString "A"))) (.cons (.cst (.str (Str.ofString ""))) (.cons (.cst (.str (Str.ofString "a b"))) (.cons (.cst (.str (Str.ofString "a1"))) (.cons (.cst (.str (Str.ofString "-"))) (.cons (.bin .pow (.cst (.int 10)) (.cst (.int 12))) (.cons (.bin .sub (.cst (.int 0)) (.bin .pow (.cst (.int 10)) (.cst (.int 12)))) (.cons (.cst (.bl true)) (.cons (.lst false (.cons (.cst (.str (Str.ofString "a"))) .nil)) (.cons (.tup (.cons (.cst (.str (Str.ofString "a"))) (.cons (.lst false (.cons (.cst (.str (Str.ofString "b"))) .nil)) .nil))) (.cons (.tup (.cons (.cst (.str (Str.ofString "a"))) (.cons (.cst (.str (Str.ofString "B"))) .nil))) (.cons (.call 16 (.cons (.cst (.int 60)) (.cons (.cst (.str (Str.ofString "a"))) .nil))) (.cons (.tup (.cons (.cst (.str (Str.ofString "a"))) (.cons (.cst (.bl true)) .nil))) .nil))))))))))))))) (.cons (.ifs (.cmp .ne (.word (.call 3 (.cons (.var 2) .nil))) (.tup (.cons (.cst (.str (Str.ofString "text"))) (.cons (.cst (.int 0)) .nil)))) (.cons (.ret (.cst (.bl false)))
    .nil) .nil)
    .nil))
    (.cons (.asg 3 (.call 16 (.cons (.cst (.int 59)) (.cons (.cst (.str (Str.ofString "a"))) .nil))))
    (.cons (.ifs (.bor (.not (.call 13 (.cons (.call 3 (.cons (.var 3) .nil)) (.cons (.bin .add (.bin .add (.bin .mul (.cst (.str (Str.ofString "("))) (.cst (.int 59))) (.cst (.str (Str.ofString "a")))) (.bin .mul (.cst (.str (Str.ofString ")"))) (.cst (.int 59)))) .nil)))) (.bor (.cmp .ne (.call 7 (.cons (.bin .add (.bin .add (.bin .mul (.cst (.str (Str.ofString "("))) (.cst (.int 59))) (.cst (.str (Str.ofString "a")))) (.bin .mul (.cst (.str (Str.ofString ")"))) (.cst (.int 59)))) .nil)) (.var 3)) (.cmp .ne (.word (.call 7 (.cons (.bin .add (.bin .add (.bin .mul (.cst (.str (Str.ofString "("))) (.cst (.int 60))) (.cst (.str (Str.ofString "a")))) (.bin .mul (.cst (.str (Str.ofString ")"))) (.cst (.int 60)))) .nil))) (.tup (.cons (.cst (.str (Str.ofString "text"))) (.cons (.cst (.int 0)) .nil)))))) (.cons (.ret (.cst (.bl false)))
    .nil) .nil)
    (.cons (.for (.one 2) (.seq (.lst false (.cons (.cst .non) (.cons (.cst (.int 5)) (.cons (.cst (.str (Str.ofString ""))) (.cons (.cst (.str (Str.ofString " "))) (.cons (.cst (.str (Str.ofString "A"))) (.cons (.cst (.str (Str.ofString "a b"))) (.cons (.cst (.str (Str.ofString "01"))) (.cons (.cst (.str (Str.ofString "-0"))) (.cons (.cst (.str (Str.ofString "--1"))) (.cons (.cst (.str (Str.ofString "+1"))) (.cons (.cst (.str (Str.ofString "1000000000000"))) (.cons (.cst (.str (Str.ofString "("))) (.cons (.cst (.str (Str.ofString ")"))) (.cons (.cst (.str (Str.ofString "(a"))) (.cons (.cst (.str (Str.ofString "a)"))) (.cons (.cst (.str (Str.ofString "(a))"))) (.cons (.cst (.str (Str.ofString "( a)"))) (.cons (.cst (.str (Str.ofString "(a )"))) (.cons (.cst (.str (Str.ofString "(a  b)"))) (.cons (.cst (.str (Str.ofString "()()"))) (.cons (.cst (.str (Str.ofString "(a)(b)"))) (.cons (.cst (.str (Str.ofString "a()"))) (.cons (.cst (.str (Str.ofString "1a"))) (.cons (.cst (.str (Str.ofString "a1"))) (.cons (.cst (.str (Str.ofString "- 1"))) (.cons (.cst (.str (Str.ofString "(-)-"))) (.cons (.cst (.str (Str.ofString "(a\nb)"))) (.cons (.cst (.str (Str.ofString "1/2"))) .nil)))))))))))))))))))))))))))))) (.cons (.ifs (.cmp .ne (.word (.call 7 (.cons (.var 2) .nil))) (.tup (.cons (.cst (.str (Str.ofString "text"))) (.cons (.cst (.int 0)) .nil)))) (.cons (.ret (.cst (.bl false)))
    .nil) .nil)
    .nil))
    (.cons (.for (.one 4) (.rng (.bin .add (.cst (.int 8)) (.bi2 .min (.bi .len (.var 0)) (.cst (.int 10))))) (.cons (.par [9, 10] (.cons (.call 15 (.cons (.var 1) (.cons (.cst (.int 3)) .nil))) (.cons (.call 15 (.cons (.var 1) (.cons (.cst (.int 3)) .nil))) .nil)))
    (.cons (.asg 5 (.call 14 (.cons (.var 9) .nil)))
    (.cons (.ifs (.bor (.not (.call 13 (.cons (.call 3 (.cons (.var 9) .nil)) (.cons (.var 5) .nil)))) (.bor (.not (.call 13 (.cons (.call 7 (.cons (.var 5) .nil)) (.cons (.var 9) .nil)))) (.bor (.not (.call 13 (.cons (.call 7 (.cons (.var 5) .nil)) (.cons (.var 9) .nil)))) (.not (.call 13 (.cons (.call 3 (.cons (.var 9) .nil)) (.cons (.var 5) .nil))))))) (.cons (.ret (.cst (.bl false)))
    .nil) .nil)
    (.cons (.ifs (.cmp .ne (.cmp .eq (.call 3 (.cons (.var 9) .nil)) (.call 3 (.cons (.var 10) .nil))) (.cmp .eq (.var 9) (.var 10))) (.cons (.ret (.cst (.bl false)))
    .nil) .nil)
    (.cons (.asg 6 (.call 10 (.cons (.var 1) (.cons (.bin .add (.bi .len (.var 5)) (.cst (.int 1))) .nil))))
    (.cons (.asg 7 (.call 11 (.cons (.var 1) (.cons (.lst false (.cons (.bin .add (.bin .add (.slc false (.var 5) .none (.some (.var 6))) (.call 11 (.cons (.var 1) (.cons (.lst false (.cons (.cst (.str (Str.ofString "("))) (.cons (.cst (.str (Str.ofString ")"))) (.cons (.cst (.str (Str.ofString " "))) (.cons (.cst (.str (Str.ofString "A"))) .nil))))) .nil)))) (.slc false (.var 5) (.some (.var 6)) .none)) (.cons (.bin .add (.slc false (.var 5) .none (.some (.var 6))) (.slc false (.var 5) (.some (.bin .add (.var 6) (.cst (.int 1)))) .none)) .nil))) .nil))))
    (.cons (.asg 8 (.word (.call 7 (.cons (.var 7) .nil))))
    (.cons (.ifs (.band (.cmp .ne (.var 8) (.tup (.cons (.cst (.str (Str.ofString "text"))) (.cons (.cst (.int 0)) .nil)))) (.bor (.not (.call 12 (.cons (.var 8) .nil))) (.cmp .ne (.call 14 (.cons (.var 8) .nil)) (.var 7)))) (.cons (.ret (.cst (.bl false)))
    .nil) .nil)
    .nil)))))))))
    (.cons (.ret (.cst (.bl true)))
    .nil)))))))
def fns : List FnD := [⟨1, 2, true, b_is_word⟩,
  ⟨1, 1, true, b_is_figure⟩,
  ⟨1, 5, true, b_is_value⟩,
  ⟨1, 6, true, b_value_text⟩,
  ⟨1, 4, true, b_pieces_of⟩,
  ⟨1, 3, true, b_plain_of⟩,
  ⟨1, 5, true, b_value_of⟩,
  ⟨1, 2, true, b_read_value⟩,
  ⟨1, 3, false, b__law_begun⟩,
  ⟨1, 6, false, b__law_mixed⟩,
  ⟨2, 3, false, b__law_draw⟩,
  ⟨2, 2, false, b__law_pick⟩,
  ⟨1, 2, true, b__law_plain⟩,
  ⟨2, 2, true, b__law_is⟩,
  ⟨1, 2, true, b__law_value_text⟩,
  ⟨2, 4, false, b__law_some_value⟩,
  ⟨2, 3, true, b__law_nested⟩,
  ⟨1, 11, false, b_law⟩]
def gls : List PV := [(.int 60), (.int 12), (.int 1000000000000), (.str (Str.ofString "abcdefghijklmnopqrstuvwxyz")), (.str (Str.ofString "0123456789"))]
def word (c : Nat) (fs : List PV) : Option PV := match c, fs with
  | 0, [l] => some (.tup [.str (Str.ofString "text"), l])
  | _, _ => none
def mkE (c : Nat) (vs : List PV) : Option (List PV) := match c, vs with
  | 0, [.str _, .int l] => some [.int l]
  | _, _ => none
def P0 : Pg := ⟨fns, gls, word, mkE, 100000⟩
end Ev.K88

set_option Elab.async false
set_option linter.all false
set_option maxRecDepth 100000
set_option maxHeartbeats 0
/-! k88: the small language's text, checked -/
namespace Ev.K88
open PySem PySem.Spec PyProof.Rows L2 Ev
def top (i : Nat) : Stmt := PySem.Challenge.pw_wheelbook_k88_values_written.main.body.getD i (.Pass ⟨0, 0, 0, 0⟩)
def errs : List Str := ["NoText"]
def lk : Lk := ⟨[("is_word", ["thing"]), ("is_figure", ["thing"]), ("is_value", ["thing"]), ("value_text", ["value"]), ("pieces_of", ["text"]), ("plain_of", ["piece"]), ("value_of", ["pieces"]), ("read_value", ["text"]), ("_law_begun", ["script"]), ("_law_mixed", ["state"]), ("_law_draw", ["state", "room"]), ("_law_pick", ["state", "some"]), ("_law_plain", ["value"]), ("_law_is", ["found", "due"]), ("_law_value_text", ["value"]), ("_law_some_value", ["state", "deep"]), ("_law_nested", ["many", "one"]), ("law", ["script"])], ["MOST_DEEP", "MOST_FIGURES", "MOST_NUMBER", "SMALL", "FIGURES"], ["abs", "all", "bool", "dict", "enumerate", "int", "isinstance", "len", "list", "min", "range", "repr", "reversed", "str", "tuple"], ["read_value", "value_text"]⟩
def tops : List (Str × List Str × List Str × Bool × Nat) := [("is_word", ["thing"], ["thing", "sign"], false, 23),
  ("is_figure", ["thing"], ["thing"], false, 24),
  ("is_value", ["thing"], ["thing", "layer", "deep", "later", "one"], false, 25),
  ("value_text", ["value"], ["value", "found", "left", "here", "at", "one"], false, 26),
  ("pieces_of", ["text"], ["text", "found", "at", "end"], false, 27),
  ("plain_of", ["piece"], ["piece", "bare", "sign"], false, 28),
  ("value_of", ["pieces"], ["pieces", "piece", "open_ones", "done", "one"], false, 29),
  ("read_value", ["text"], ["text", "found"], false, 30),
  ("_law_begun", ["script"], ["script", "great", "cell"], false, 32),
  ("_law_mixed", ["state"], ["state", "prime", "turn", "found", "blend", "cell"], false, 33),
  ("_law_draw", ["state", "room"], ["state", "room", "found"], false, 34),
  ("_law_pick", ["state", "some"], ["state", "some"], false, 35),
  ("_law_plain", ["value"], ["value", "one"], false, 36),
  ("_law_is", ["found", "due"], ["found", "due"], false, 37),
  ("_law_value_text", ["value"], ["value", "one"], false, 38),
  ("_law_some_value", ["state", "deep"], ["state", "deep", "way", "lap"], false, 41),
  ("_law_nested", ["many", "one"], ["many", "one", "lap"], false, 42),
  ("law", ["script"], ["script", "state", "thing", "deepest", "turn", "text", "at", "bent", "told", "one", "other"], true, 43)]

def ds : List DefI := tops.map fun t => ⟨t.1, t.2.1, t.2.2.1, t.2.2.2.1, defArgs (top t.2.2.2.2), defBody (top t.2.2.2.2), defScope (top t.2.2.2.2)⟩
theorem all_chk : ((ds.zip fns).all fun q => dchk lk "_law_word" errs q.1 q.2) = true := by decide +kernel
end Ev.K88

set_option Elab.async false
set_option linter.all false
set_option maxRecDepth 100000
set_option maxHeartbeats 0
/-! k88: the head -/
namespace Ev.K88
open PySem PySem.Spec PyProof.Rows L2 Ev
def dOf (x : Str) (i : Nat) : He.DefD := ⟨(x, none), x, x, defArgs (top i), defBody (top i), defScope (top i), [], []⟩
def fn : List He.DefD := (tops.map fun t => dOf t.1 t.2.2.2.2) ++ [dOf "_law_caught" 39, dOf "_law_word" 40]
def fa : List He.Fa := (tops.map fun t => He.Fa.glo t.1) ++ (lk.bts.map He.Fa.free) ++
  [.free "super", .int "MOST_DEEP" 60, .int "MOST_FIGURES" 12, .int "MOST_NUMBER" 1000000000000, .str "SMALL" "abcdefghijklmnopqrstuvwxyz", .str "FIGURES" "0123456789", .glo "_law_caught", .glo "_law_word", .glo "WheelError", .glo "NoText", .glo "Used", .glo "TooMany"]
def initOf : Stmt → Stmt
  | .ClassDef _ _ _ (s :: _) _ _ _ _ _ _ _ => s
  | s => s
def iT : Stmt := initOf (top 14)
def pI : He.Defn := ("NoText", some "__init__")
def ksI : KsV := some ("__init__", "NoText.__init__", defArgs iT, .stmts (defBody iT), defScope iT, mainGlobals, builtinsNs)
def pw : He.Defn := ("_law_word", none)
def pl : He.Defn := ("law", none)
def ex (K : PySem.W.Frag) : Bool :=
  let E := He.ga K "NoText"; let WE := He.ga K "WheelError"
  suB PySem.Challenge.pw_wheelbook_k88_values_written K E "line" "NoText.__init__" (He.fAd K pI) &&
  (decide (PySem.W.exmOne K (.ref E) (.ref WE) = some true) && (ecB K E && (xfB K E && (decide (PySem.W.kitOne K (.ref E) (.ref (He.ga K "Used")) = some false) && (decide (PySem.W.kitOne K (.ref E) (.ref (He.ga K "TooMany")) = some false) &&
  (decide (PySem.W.kitOne K (.ref E) (.ref E) = some true) && decide ((He.cT K pw).2 ≠ (He.cT K pl).2)))))))
def LL : Lkd := ⟨fa, fn, [pw, pl], [(pI, ksI)], fun K => ex K && (noLst K && dflK K (He.fAd K pI) [.non])⟩
abbrev R : PySem.W.OpenRow := PySem.W.OpenLaw.row PySem.Challenge.rw_wheelbook_k88_values_written
def loose : List Str := (R.prog.main.scope.names.map (·.1)).filter fun x => x != "law"
abbrev hk : PySem.W.Hook := hookZ LL 6
def ob (s : PySem.W.SharedT) : AlZ := obsZ LL 6 (HandSHeadRun.getT s)
theorem ob_eq (s : PySem.W.SharedT) : ob s = hk.obs s.abs := obsZ_eq (HandSHeadRun.getT_eq s)
theorem run (w : World) : HandSHeadRun.RunEq R (PySem.W.view R.prog [43]) hk ob 12000 loose w := by
  intro os
  kernel_rfl
end Ev.K88

set_option Elab.async false
set_option linter.all false
set_option maxRecDepth 100000
set_option maxHeartbeats 2000000
/-! k88: the place, the rules -/
namespace Ev.K88
open PySem PySem.Spec PyProof.Rows L2 Ev
abbrev PP : Program := PySem.Challenge.pw_wheelbook_k88_values_written
def qOf (x : Str) (i : Nat) : Str := (envOfC x (defScope (top i)) 0 0 .none).qual ++ "<lambda>"
def ZZ (K : PySem.W.Frag) : Fx := ⟨K, [((He.cT K pw).2, qOf "_law_word" 40), ((He.cT K pl).2, qOf "law" 43)]⟩
def tab (K : PySem.W.Frag) : List (Addr × Option Str) := [(He.ga K "NoText", some "line")]
section
variable {K : PySem.W.Frag} {h : Heap} {mg : Str → Option Value}
theorem ds_at {D : DefI} (h : D ∈ ds) : ∃ t ∈ tops, D = ⟨t.1, t.2.1, t.2.2.1, t.2.2.2.1, defArgs (top t.2.2.2.2), defBody (top t.2.2.2.2), defScope (top t.2.2.2.2)⟩ := by
  obtain ⟨t, ht, e⟩ := List.mem_map.mp h
  exact ⟨t, ht, e.symm⟩
theorem tops_all {p : (Str × List Str × List Str × Bool × Nat) → Prop} (h : ∀ i, (hi : i < 18) → p (tops[i]'(by show i < 18; exact hi))) : ∀ t ∈ tops, p t := by
  intro t ht
  obtain ⟨i, hi, e⟩ := List.mem_iff_getElem.mp ht
  rw [← e]
  exact h i hi
theorem binds_all : ∀ t ∈ tops, ∀ (kV doc pm : Value) (an : Option Addr) (cdv ct : Value) (us : List Value), us.length = t.2.1.length → bindArgs (PySem.W.fnOf t.1 t.1 (defArgs (top t.2.2.2.2)) (defBody (top t.2.2.2.2)) (defScope (top t.2.2.2.2)) .none kV doc pm an cdv ct) ⟨us, []⟩ = pure (t.2.1.zip us) := by
  intro t ht kV doc pm an cdv ct us hl
  simp only [tops, List.mem_cons, List.not_mem_nil, or_false] at ht
  rcases ht with rfl | rfl | rfl | rfl | rfl | rfl | rfl | rfl | rfl | rfl | rfl | rfl | rfl | rfl | rfl | rfl | rfl | rfl
  all_goals first
    | (match us, hl with | [_], _ => rfl)
    | (match us, hl with | [_, _], _ => rfl)
theorem kbinds_all : ∀ t ∈ tops, t.1 ∈ lk.kws → ∀ (kV doc pm : Value) (an : Option Addr) (cdv ct : Value) (us : List Value), us.length = t.2.1.length → bindArgs (PySem.W.fnOf t.1 t.1 (defArgs (top t.2.2.2.2)) (defBody (top t.2.2.2.2)) (defScope (top t.2.2.2.2)) .none kV doc pm an cdv ct) ⟨[], t.2.1.zip us⟩ = pure (t.2.1.zip us) := by
  intro t ht hk kV doc pm an cdv ct us hl
  simp only [tops, List.mem_cons, List.not_mem_nil, or_false] at ht
  rcases ht with rfl | rfl | rfl | rfl | rfl | rfl | rfl | rfl | rfl | rfl | rfl | rfl | rfl | rfl | rfl | rfl | rfl | rfl
  all_goals first
    | exact absurd hk (by decide +kernel)
    | (match us, hl with | [_], _ => rfl)
theorem glo_top (X : K.In h) (G : h.Ns mainGlobals mg) (c : SaysZ LL h K) {t} (ht : t ∈ tops) : mg t.1 = some (.ref (He.ga K t.1)) :=
  He.glo_ok X G (He.SaysD.facts c.d (f := .glo t.1) (List.mem_append_left _ (List.mem_append_left _ (List.mem_map.mpr ⟨t, ht, rfl⟩))))
theorem free_bt (X : K.In h) (G : h.Ns mainGlobals mg) (c : SaysZ LL h K) {x : Str} (hx : x ∈ lk.bts) : mg x = none :=
  He.free_ok X G (He.SaysD.facts c.d (f := .free x) (List.mem_append_left _ (List.mem_append_right _ (List.mem_map.mpr ⟨x, hx, rfl⟩))))
theorem def_top (c : SaysZ LL h K) {t} (ht : t ∈ tops) : ∃ fd, FunD K t.1 t.1 (defArgs (top t.2.2.2.2)) (defBody (top t.2.2.2.2)) (defScope (top t.2.2.2.2)) [] [] (He.ga K t.1) fd := by
  obtain ⟨fd, F⟩ := He.SaysD.defs c.d (d := dOf t.1 t.2.2.2.2) (List.mem_append_left _ (List.mem_map.mpr ⟨t, ht, rfl⟩))
  exact ⟨fd, F⟩
theorem pl_of {base : Heap} {wo : World} {E : Ex} (X : K.In h) (G : h.Ns mainGlobals mg) (c : SaysZ LL h K) : Pl P0 lk "_law_word" errs ds 6 (ZZ K) E PP wo mg base where
  st := by decide
  fns := by rfl
  len := by rfl
  chk := fun i D d h1 h2 => by
    have hz : (ds.zip fns)[i]? = some (D, d) := List.getElem?_zip_eq_some.mpr ⟨h1, h2⟩
    exact List.all_eq_true.mp all_chk (D, d) (List.mem_of_getElem? hz)
  defs := fun D hD => by
    obtain ⟨t, ht, rfl⟩ := ds_at hD
    obtain ⟨fd, F⟩ := def_top c ht
    refine ⟨_, fd, F, glo_top X G c ht, F.bindsN (binds_all t ht), fun hk s us _ hl => ?_⟩
    obtain ⟨oc, od, dV, kV, doc, pm, an, cdv, ct, osl, rfl, lk, hcd, hD, hK⟩ := F.ex
    rcases hD with ⟨_, rfl⟩ | ⟨e, _⟩
    · exact BindsTo.of_eq (kbinds_all t ht hk kV doc pm an cdv ct us hl)
    · exact absurd rfl e
  gls := fun i x hx => by
    have fa_i : ∀ (f : He.Fa), f ∈ LL.fa → f.ok K = true := fun f hf => He.SaysD.facts c.d hf
    match i, hx with
    | 0, hx => cases hx; obtain ⟨t, e⟩ := He.int_ok X G (c.d.fact 34 (f := .int "MOST_DEEP" 60) rfl); exact ⟨_, .int 60, _, rfl, e, ⟨t, rfl⟩, fun _ _ _ => .int _⟩
    | 1, hx => cases hx; obtain ⟨t, e⟩ := He.int_ok X G (c.d.fact 35 (f := .int "MOST_FIGURES" 12) rfl); exact ⟨_, .int 12, _, rfl, e, ⟨t, rfl⟩, fun _ _ _ => .int _⟩
    | 2, hx => cases hx; obtain ⟨t, e⟩ := He.int_ok X G (c.d.fact 36 (f := .int "MOST_NUMBER" 1000000000000) rfl); exact ⟨_, .int 1000000000000, _, rfl, e, ⟨t, rfl⟩, fun _ _ _ => .int _⟩
    | 3, hx => cases hx; obtain ⟨t, e⟩ := He.str_ok X G (c.d.fact 37 (f := .str "SMALL" "abcdefghijklmnopqrstuvwxyz") rfl); exact ⟨_, .str "abcdefghijklmnopqrstuvwxyz", _, rfl, e, ⟨t, rfl⟩, fun _ _ _ => .str _⟩
    | 4, hx => cases hx; obtain ⟨t, e⟩ := He.str_ok X G (c.d.fact 38 (f := .str "FIGURES" "0123456789") rfl); exact ⟨_, .str "0123456789", _, rfl, e, ⟨t, rfl⟩, fun _ _ _ => .str _⟩
    | n + 5, hx => cases hx
  bts := fun x hx => free_bt X G c hx
end
end Ev.K88

set_option Elab.async false
set_option linter.all false
set_option maxRecDepth 100000
set_option maxHeartbeats 2000000
/-! k88: the rules -/
namespace Ev.K88
open PySem PySem.Spec PyProof.Rows L2 Ev
abbrev LT : Type := Pos
section
variable {K : PySem.W.Frag} {h : Heap} {mg : Str → Option Value} {base : Heap} {wo : World}
theorem ex_all (c : SaysZ LL h K) : suB PP K (He.ga K "NoText") "line" "NoText.__init__" (He.fAd K pI) = true ∧ PySem.W.exmOne K (.ref (He.ga K "NoText")) (.ref (He.ga K "WheelError")) = some true ∧ ecB K (He.ga K "NoText") = true ∧ xfB K (He.ga K "NoText") = true ∧
    PySem.W.kitOne K (.ref (He.ga K "NoText")) (.ref (He.ga K "Used")) = some false ∧ PySem.W.kitOne K (.ref (He.ga K "NoText")) (.ref (He.ga K "TooMany")) = some false ∧ PySem.W.kitOne K (.ref (He.ga K "NoText")) (.ref (He.ga K "NoText")) = some true ∧ (He.cT K pw).2 ≠ (He.cT K pl).2 ∧ noLst K = true ∧ dflK K (He.fAd K pI) [.non] = true := by
  have e : (ex K && (noLst K && dflK K (He.fAd K pI) [.non])) = true := c.ex
  unfold ex at e
  simp only [Bool.and_eq_true, decide_eq_true_eq] at e
  obtain ⟨⟨e1, e2, e3, e4, e5, e6, e7, e8⟩, e9, e10⟩ := e
  exact ⟨e1, e2, e3, e4, e5, e6, e7, e8, e9, e10⟩
theorem su_pos : ∃ p0 p1 ap tp cp ep sp fp lp asp : Pos, defBody iT = suBody "line" p0 p1 ap tp cp ep sp fp lp asp ∧ (ap.endLine == cp.line) = true := ⟨_, _, _, _, _, _, _, _, _, _, rfl, rfl⟩
theorem su_args : ∃ (ar0 ar1 ar2 : Arg) (dl : List Expr), defArgs iT = ⟨[], [ar0, ar1, ar2], none, [], [], none, dl⟩ ∧ ar0.arg = "self" := ⟨_, _, _, _, rfl, by decide +kernel⟩
theorem su_scope : SuS "line" (defScope iT) := suScope_ok (by decide +kernel)
theorem su_binds {K : PySem.W.Frag} {dV kV doc pm : Value} {an : Option Addr} {cdv ct : Value} {cc : Addr} (hD : DflV K dV [.non]) : Binds K (PySem.W.ksFn "__init__" "NoText.__init__" (defArgs iT) (defBody iT) (defScope iT) dV kV doc pm an cdv ct cc) ["self", "text", "line"] [] :=
  binds_dfl hD (by simp) fun T us its hl hi => match us, hl, its, hi with | [_, _, _], _, [_], _ => ⟨_, rfl, rfl⟩
theorem rsok (X : K.In h) (G : h.Ns mainGlobals mg) (c : SaysZ LL h K) : RsOk PP wo K mg base (He.ga K "NoText") "line" "NoText" := by
  obtain ⟨h1, _, _, _, _, _, _, _, _, hdf⟩ := ex_all c
  obtain ⟨f1, f2, fd, S⟩ := suB_ok h1 (He.free_ok X G (c.d.fact 33 (f := .free "super") rfl)) (by decide +kernel) (c.ks (pI, ksI) List.mem_cons_self)
  obtain ⟨p0, p1, ap, tp, cp, ep, sp, fp, lp, asp, eb, el⟩ := su_pos
  obtain ⟨ar0, ar1, ar2, dl, ea, e0⟩ := su_args
  have hb : Binds K fd ["self", "text", "line"] [] := by
    obtain ⟨oc, od, dV, kV, doc, pm, an, ct, osl, rfl, lk⟩ := S.fn
    exact su_binds (dflK_ok hdf lk)
  refine ⟨S.T, He.glo_ok X G (c.d.fact 42 (f := .glo "NoText") rfl), _, fd, f1, f2, ?_, hb⟩
  rw [eb] at S
  exact su_ok (k := 0) S su_scope ea e0 el
theorem mk_ok : ∀ vs fs, mkE 0 vs = some fs → ∃ y z, vs = [y, z] ∧ fs = [z] ∧ flat z = true := by
  intro vs fs e
  unfold mkE at e
  split at e
  · rename_i s l _
    cases e
    exact ⟨_, _, rfl, rfl, rfl⟩
  · cases e
theorem rs_rule {X : Cx} {sc : Scope} {n : Nat} (R : RsOk X.prog X.w X.K X.mg X.base (He.ga K "NoText") "line" "NoText") (hK : X.K = K) (hsc : X.env.scope = sc) (hcalm : X.calm = true) (hr : Room 2 X.A) : RsRule (ZZ K) (exIs (ZZ K) (tab K)) (ctxOf P0 (evF P0 n)) errs sc X := by
  intro i x a as g p q pos hx hg ho hs ha
  match i, hx with
  | 0, hx =>
    cases hx
    have hgl : Gl X "NoText" := by
      have h2 := of_decide_eq_true hg
      show X.env.scope.names.lookup _ = _
      rw [hsc]
      exact h2
    exact rs_fld (Z := ZZ K) (C0 := ctxOf P0 (evF P0 n)) hK hcalm hr R (by rfl) (fun vs fs e => mk_ok vs fs e) hgl (by decide +kernel) hs ha
  | n + 1, hx => cases hx
theorem word_ok2 (c : SaysZ LL h K) (hf : PySem.W.findIn K (.ref (He.ga K "NoText")) "line" = some none) : WordOk K (tab K) (He.ga K "WheelError") [("Used", "used", "name", He.ga K "Used"), ("TooMany", "many", "most", He.ga K "TooMany"), ("NoText", "text", "line", He.ga K "NoText")] word := by
  obtain ⟨h1, h2, h3, h4, h5, h6, h7, _, _, _⟩ := ex_all c
  intro i fs v e
  unfold word at e
  split at e
  · rename_i l
    cases e
    refine ⟨He.ga K "NoText", "line", "text", "NoText", l, [("Used", "used", "name", He.ga K "Used"), ("TooMany", "many", "most", He.ga K "TooMany")], [], rfl, rfl, rfl, h2, ecB_ok h3, xfB_ok h4, hf, rfl, fun t ht => ?_, h7⟩
    rcases List.mem_cons.mp ht with rfl | ht
    · exact h5
    · rcases List.mem_cons.mp ht with rfl | ht
      · exact h6
      · cases ht
  · cases e
end
end Ev.K88

set_option Elab.async false
set_option linter.all false
set_option maxRecDepth 100000
set_option maxHeartbeats 2000000
/-! k88: the law's word -/
namespace Ev.K88
open PySem PySem.Spec PyProof.Rows L2 Ev
theorem cb : ∃ p1 p2 p3 p4 p5 p6 p7 p8 p9 p10 p11 p12 p13 p14 p15 p16 p17 p18 p19 p20 p21 p22 p23 : Pos, ∃ j1 j2 : Nat, defBody (top 39) = caughtBody "WheelError" p1 p2 p3 p4 p5 p6 p7 p8 p9 p10 p11 p12 p13 p14 p15 p16 p17 p18 p19 p20 p21 p22 p23 j1 j2 ∧ (p9.endLine == p11.line) = true :=
  ⟨_, _, _, _, _, _, _, _, _, _, _, _, _, _, _, _, _, _, _, _, _, _, _, _, _, rfl, rfl⟩
theorem wb : ∃ (ps2 : Arguments) (sL : Scope) (q5 q6 q7 q8 q9 q10 q11 q12 : Pos) (rest : List Stmt) (r1 r2 r3 r4 r5 r6 r7 r8 r9 r10 r11 r12 r13 : Pos) (i1 i2 : Nat),
    defBody (top 40) = wordBody (.Call (.Name "_law_caught" q5) [.Lambda ps2 (toldBody q6 q7 q8 q9 q10) sL q11] [] q12) rest r1 r2 r3 r4 r5 r6 r7 r8 r9 r10 r11 r12 r13 i1 i2 ∧ (q7.endLine == q10.line) = true ∧ noPar ps2 = true ∧ LamX.lamSB (defScope (top 40)) sL = true ∧ Vis sL "action" ∧ Vis sL "told" ∧
    ∀ a b c : Addr, errsB [("Used", "used", "name", a), ("TooMany", "many", "most", b), ("NoText", "text", "line", c)] rest = true :=
  by
    refine ⟨_, _, _, _, _, _, _, _, _, _, _, _, _, _, _, _, _, _, _, _, _, _, _, _, _, _, rfl, ?_, ?_, ?_, ?_, ?_, ?_⟩
    · decide +kernel
    · decide +kernel
    · decide +kernel
    · exact .inr (.inr (by decide +kernel))
    · exact .inr (.inr (by decide +kernel))
    · intro a b c; rfl
section
variable {K : PySem.W.Frag} {h : Heap} {mg : Str → Option Value} {base : Heap} {wo : World}
theorem def_at (c : SaysZ LL h K) {x : Str} {i : Nat} (hm : dOf x i ∈ fn) : ∃ fd, FunD K x x (defArgs (top i)) (defBody (top i)) (defScope (top i)) [] [] (He.ga K x) fd := by
  obtain ⟨fd, F⟩ := He.SaysD.defs c.d (d := dOf x i) hm
  exact ⟨fd, F⟩
/-- the code object of a def that is looked at -/
theorem code_at (c : SaysZ LL h K) {x : Str} {i : Nat} {fd : FuncData} (F : FunD K x x (defArgs (top i)) (defBody (top i)) (defScope (top i)) [] [] (He.ga K x) fd) : ∃ (oc : Value) (od : Option Addr) (dV kV doc pm : Value) (an : Option Addr) (ct : Value) (osl : Array (Option Value)),
    K.lookup (He.ga K x) = some ⟨oc, od, .func (PySem.W.fnOf x x (defArgs (top i)) (defBody (top i)) (defScope (top i)) dV kV doc pm an (.ref (He.cT K (x, none)).1) ct), osl⟩ ∧ fd = PySem.W.fnOf x x (defArgs (top i)) (defBody (top i)) (defScope (top i)) dV kV doc pm an (.ref (He.cT K (x, none)).1) ct ∧ PySem.W.codeIn K (.ref (He.cT K (x, none)).1) x = true := by
  obtain ⟨oc, od, dV, kV, doc, pm, an, cdv, ct, osl, e, lk, hc, _, _⟩ := F.ex
  obtain ⟨cc, rfl⟩ := He.codeIn_ref hc
  have e2 : (He.cT K (x, none)).1 = cc := He.codeOf_eq (p := (x, none)) lk (by rw [e])
  rw [e2]
  rw [e] at lk
  exact ⟨oc, od, dV, kV, doc, pm, an, ct, osl, lk, e, hc⟩
theorem ldef_at (X : K.In h) (G : h.Ns mainGlobals mg) (c : SaysZ LL h K) {x : Str} {i : Nat} {N : List Str} {P : Addr} (hm : dOf x i ∈ fn) (hg : He.Fa.glo x ∈ fa) (hs : scopeB N ["action"] (defScope (top i)) = true)
    (hb : ∀ (kV doc pm : Value) (an : Option Addr) (cdv ct : Value) (us : List Value), us.length = 1 → bindArgs (PySem.W.fnOf x x (defArgs (top i)) (defBody (top i)) (defScope (top i)) .none kV doc pm an cdv ct) ⟨us, []⟩ = pure ((["action"] : List Str).zip us)) :
    LDef (ZZ K) mg base x (defBody (top i)) (defScope (top i)) N (He.ga K x) (He.cT K (x, none)).1 P := by
  obtain ⟨fd, F⟩ := def_at c hm
  have bi : Binds K fd ["action"] [] := F.bindsN fun kV doc pm an cdv ct us hl => hb kV doc pm an cdv ct us hl
  obtain ⟨oc, od, dV, kV, doc, pm, an, ct, osl, lk, e, hc⟩ := code_at c F
  rw [e] at bi
  exact ⟨⟨oc, od, _, dV, kV, doc, pm, an, ct, osl, lk, bi⟩, He.glo_ok X G (He.SaysD.facts c.d hg), F.kp, hc, scopeB_ok hs⟩
theorem mem_ca : dOf "_law_caught" 39 ∈ fn := List.mem_append_right _ List.mem_cons_self
theorem mem_wo : dOf "_law_word" 40 ∈ fn := List.mem_append_right _ (List.mem_cons_of_mem _ List.mem_cons_self)
theorem fact_at (c : SaysZ LL h K) (i : Nat) {f : He.Fa} (e : fa[i]? = some f) : f ∈ fa := List.mem_of_getElem? e
theorem rules_of (X : K.In h) (G : h.Ns mainGlobals mg) (c : SaysZ LL h K) (TB : ∀ p ∈ [He.cT K pw, He.cT K pl], LamX.TabB base mg p.1 p.2) : Rules P0 lk "_law_word" errs ds 6 (ZZ K) (exIs (ZZ K) (tab K)) PP wo mg base where
  rs := fun n D hD f cdv A outer s H W hr => by
    have R : RsOk PP wo K mg base (He.ga K "NoText") "line" "NoText" := rsok X G c
    exact rs_rule (K := K) R rfl rfl rfl (hr.mono (by omega))
  wd := fun n D hD hwf kp f cdv A outer s H W hg hr hcd hco hmf => by
    obtain ⟨p1, p2, p3, p4, p5, p6, p7, p8, p9, p10, p11, p12, p13, p14, p15, p16, p17, p18, p19, p20, p21, p22, p23, j1, j2, eb, el⟩ := cb
    obtain ⟨ps2, sL, q5, q6, q7, q8, q9, q10, q11, q12, rest, r1, r2, r3, r4, r5, r6, r7, r8, r9, r10, r11, r12, r13, i1, i2, e1, e2, e3, e4, e5, e6, e7⟩ := wb
    -- D is the law
    obtain ⟨t, ht, rfl⟩ := ds_at hD
    have hl : t.1 = "law" ∧ t.2.2.2.2 = 43 := by
      simp only [tops, List.mem_cons, List.not_mem_nil, or_false] at ht
      rcases ht with rfl | rfl | rfl | rfl | rfl | rfl | rfl | rfl | rfl | rfl | rfl | rfl | rfl | rfl | rfl | rfl | rfl | rfl
      all_goals first
        | exact ⟨rfl, rfl⟩
        | cases hwf
    obtain ⟨x, pn, N, wf, i⟩ := t
    obtain ⟨rfl, rfl⟩ := hl
    have hf : f = He.ga K "law" := by
      have e := hmf.symm.trans (glo_top X G c ht)
      injection e with e
      injection e
    obtain ⟨fd, F⟩ := def_top c ht
    obtain ⟨oc, od, dV, kV, doc, pm, an, ct, osl, lk', e, hc⟩ := code_at c F
    obtain ⟨oc2, od2, fd2, osl2, lk2, ecd⟩ := hcd
    have ecv : cdv = .ref (He.cT K pl).1 := by
      rw [hf] at lk2
      rw [show (ZZ K).K = K from rfl, lk'] at lk2
      cases lk2
      exact ecd.symm
    subst ecv
    obtain ⟨h1, h2, h3, h4, h5, h6, h7, hne, _, _⟩ := ex_all c
    obtain ⟨_, _, fdE, S⟩ := suB_ok h1 (He.free_ok X G (c.d.fact 33 (f := .free "super") rfl)) (by decide +kernel) (c.ks (pI, ksI) List.mem_cons_self)
    have DC := ldef_at (base := base) (P := 0) (N := ["action", "found", "error"]) X G c mem_ca (fact_at c 39 rfl) (by decide +kernel) (fun kV doc pm an cdv ct us hl => match us, hl with | [_], _ => rfl)
    have DW := ldef_at (base := base) (P := (He.cT K pw).2) (N := ["action", "told", "error", "word", "is_one"]) X G c mem_wo (fact_at c 40 rfl) (by decide +kernel) (fun kV doc pm an cdv ct us hl => match us, hl with | [_], _ => rfl)
    rw [eb] at DC
    rw [e1] at DW
    have WS : WdS (ZZ K) mg base (tab K) word "_law_word" "_law_caught" "WheelError" (He.ga K "WheelError") (He.ga K "_law_caught") (He.cT K ("_law_caught", none)).1 0 (He.ga K "_law_word") (He.cT K pw).1 (He.cT K pw).2 (defScope (top 39)) p1 p2 p3 p4 p5 p6 p7 p8 p9 p10 p11 p12 p13 p14 p15 p16 p17 p18 p19 p20 p21 p22 p23 j1 j2 (defScope (top 40)) ps2 sL q5 q6 q7 q8 q9 q10 q11 q12 rest [("Used", "used", "name", He.ga K "Used"), ("TooMany", "many", "most", He.ga K "TooMany"), ("NoText", "text", "line", He.ga K "NoText")] r1 r2 r3 r4 r5 r6 r7 r8 r9 r10 r11 r12 r13 i1 i2 := by
      refine ⟨⟨DC, DW, ⟨el, e2, by decide +kernel, by decide +kernel, by decide +kernel, by decide +kernel, He.glo_ok X G (c.d.fact 41 (f := .glo "WheelError") rfl), by decide +kernel⟩, ⟨TB _ List.mem_cons_self, List.mem_cons_self, fun p hp hq => ?_, e3, e4⟩, ⟨e5, e6, by decide +kernel, by decide +kernel⟩, ⟨by decide +kernel, by decide +kernel, by decide +kernel, free_bt X G c (by decide +kernel)⟩, ⟨e7 _ _ _, fun t ht => ?_⟩, word_ok2 c S.nof⟩, by decide +kernel⟩
      · rcases List.mem_cons.mp hp with rfl | hp
        · rfl
        · rcases List.mem_cons.mp hp with rfl | hp
          · exact absurd hq.symm hne
          · cases hp
      · rcases List.mem_cons.mp ht with rfl | ht
        · exact ⟨show (defScope (top 40)).names.lookup ("Used" : Str) = some .globalImplicit by decide +kernel, He.glo_ok X G (c.d.fact 43 (f := .glo "Used") rfl), show (("Used" : Str) == ("__debug__" : Str)) = false by decide +kernel⟩
        · rcases List.mem_cons.mp ht with rfl | ht
          · exact ⟨show (defScope (top 40)).names.lookup ("TooMany" : Str) = some .globalImplicit by decide +kernel, He.glo_ok X G (c.d.fact 44 (f := .glo "TooMany") rfl), show (("TooMany" : Str) == ("__debug__" : Str)) = false by decide +kernel⟩
          · rcases List.mem_cons.mp ht with rfl | ht
            · exact ⟨show (defScope (top 40)).names.lookup ("NoText" : Str) = some .globalImplicit by decide +kernel, He.glo_ok X G (c.d.fact 42 (f := .glo "NoText") rfl), show (("NoText" : Str) == ("__debug__" : Str)) = false by decide +kernel⟩
            · cases ht
    refine wd_rule (X := cxOf (L2.CX PP wo) PP wo (ZZ K).K mg base N "law" (defScope (top 43)) f (.ref (He.cT K pl).1) A outer s H W) (C := ctxOf P0 (evF P0 n)) (cX := (He.cT K pl).1) (PX := (He.cT K pl).2) WS rfl rfl hg (hr.mono (by omega)) rfl (TB _ (List.mem_cons_of_mem _ List.mem_cons_self)) (List.mem_cons_of_mem _ List.mem_cons_self) fun p hp hq => ?_
    rcases List.mem_cons.mp hp with rfl | hp
    · exact absurd hq hne
    · rcases List.mem_cons.mp hp with rfl | hp
      · rfl
      · cases hp
end
end Ev.K88

set_option Elab.async false
set_option linter.all false
set_option maxRecDepth 100000
/-! k88: plain evaluation, what is general -/
namespace Ev.K88
open PySem L2 Ev PyProof.Rows
abbrev cx (n : Nat) : Ctx := ctxOf P0 (evF P0 n)
/-- a pure call tells v -/
def Cl (n i : Nat) (ps : List PV) (v : PV) : Prop := ∀ S, evF P0 n i ps S = .ok v S
/-- a pure call refuses -/
def Ce (n i : Nat) (ps : List PV) : Prop := ∀ S, evF P0 n i ps S = .ex 0 [.int 0] S
theorem noRefs_cons {v : PV} {r : List PV} : noRefs (v :: r) = true ↔ noRef v = true ∧ noRefs r = true := by simp [noRefs]
theorem frzV_self {S : Sto} {v : PV} (h : noRef v = true) : frzV S v = some v := by unfold frzV; rw [if_pos h]
theorem allO_self {S : Sto} : ∀ {l : List PV}, noRefs l = true → allO (frzV S) l = some l
  | [], _ => rfl
  | v :: r, h => by
    have h2 := noRefs_cons.mp h
    unfold allO
    rw [frzV_self h2.1, allO_self h2.2]
theorem evF_succ {n i : Nat} {d : FnD} {ps : List PV} {S : Sto} (hd : fns[i]? = some d) (hp : d.pure = true) : evF P0 (n + 1) i ps S = pureF (cx n) d ps S := by
  show (match fns[i]? with
    | some d => if d.pure then pureF (cx n) d ps S else runF (cx n) d ps S
    | none => .bad) = _
  rw [hd]
  dsimp only
  rw [if_pos hp]
theorem evF_mut {n i : Nat} {d : FnD} {ps : List PV} {S : Sto} (hd : fns[i]? = some d) (hp : d.pure = false) : evF P0 (n + 1) i ps S = runF (cx n) d ps S := by
  show (match fns[i]? with
    | some d => if d.pure then pureF (cx n) d ps S else runF (cx n) d ps S
    | none => .bad) = _
  rw [hd]
  dsimp only
  rw [if_neg (by rw [hp]; decide)]
theorem cl_of {n i : Nat} {d : FnD} {ps : List PV} {v v' : PV} {S1 : Sto} (hd : fns[i]? = some d) (hp : d.pure = true) (hn : noRefs ps = true) (h : runF (cx n) d ps [] = .ok v' S1) (hf : frzV S1 v' = some v) : Cl (n + 1) i ps v := fun S => by
  rw [evF_succ hd hp]
  unfold pureF
  rw [allO_self hn]
  dsimp only
  rw [h]
  dsimp only
  rw [hf]
  dsimp only
  rw [hn, Bool.true_or, if_pos rfl]
theorem ce_of {n i : Nat} {d : FnD} {ps : List PV} {S1 : Sto} (hd : fns[i]? = some d) (hp : d.pure = true) (hn : noRefs ps = true) (h : runF (cx n) d ps [] = .ex 0 [.int 0] S1) : Ce (n + 1) i ps := fun S => by
  rw [evF_succ hd hp]
  unfold pureF
  rw [allO_self hn]
  dsimp only
  rw [h]
  rfl
theorem Cl.uniq {n i : Nat} {ps : List PV} {v u : PV} (h : Cl n i ps v) (k : Cl n i ps u) : v = u := by
  have a := h []
  rw [k []] at a
  cases a
  rfl
/-- what a computation over an empty store tells, a call tells -/
theorem cl_run {n i : Nat} {d : FnD} {ps : List PV} {v : PV} (hd : fns[i]? = some d) (hp : d.pure = true) (hn : noRefs ps = true) (h : evF P0 (n + 1) i ps [] = .ok v []) : Cl (n + 1) i ps v := fun S => by
  rw [evF_succ hd hp] at h ⊢
  unfold pureF at h ⊢
  rw [allO_self hn] at h ⊢
  dsimp only at h ⊢
  cases e : runF (cx n) d ps [] with
  | bad => rw [e] at h; cases h
  | ex c fs S1 =>
    rw [e] at h
    dsimp only at h
    split at h <;> cases h
  | ok w S1 =>
    rw [e] at h
    dsimp only at h ⊢
    cases e2 : frzV S1 w with
    | none => rw [e2] at h; cases h
    | some u =>
      rw [e2] at h
      dsimp only at h ⊢
      split at h
      · rename_i hh
        rw [if_pos hh]
        cases h
        rfl
      · cases h
theorem ce_run {n i : Nat} {d : FnD} {ps : List PV} (hd : fns[i]? = some d) (hp : d.pure = true) (hn : noRefs ps = true) (h : evF P0 (n + 1) i ps [] = .ex 0 [.int 0] []) : Ce (n + 1) i ps := fun S => by
  rw [evF_succ hd hp] at h ⊢
  unfold pureF at h ⊢
  rw [allO_self hn] at h ⊢
  dsimp only at h ⊢
  cases e : runF (cx n) d ps [] with
  | bad => rw [e] at h; cases h
  | ex c fs S1 =>
    rw [e] at h
    dsimp only at h ⊢
    split at h
    · rename_i hh
      rw [if_pos hh]
      cases h
      rfl
    · cases h
  | ok w S1 =>
    rw [e] at h
    dsimp only at h
    cases e2 : frzV S1 w with
    | none => rw [e2] at h; cases h
    | some u =>
      rw [e2] at h
      dsimp only at h
      split at h <;> cases h
/-! ### comprehensions -/
theorem lc_all {ok : Sto → Bool} {elt : Sl → Sto → Rs PV} {test : Sl → Sto → Rs Bool} {tg : Tg} {σ : Sl} {S : Sto} {f : PV → PV} (hok : ok S = true) : ∀ (l acc : List PV), (∀ x ∈ l, ∃ σ', setTg tg x σ = some σ' ∧ test σ' S = .ok true S ∧ elt σ' S = .ok (f x) S) → acc.length + l.length ≤ 16000000 → lcGo ok elt test tg σ l S acc = .ok (acc.reverse ++ l.map f) S
  | [], acc, _, _ => by
    unfold lcGo
    rw [if_pos hok]
    simp
  | x :: r, acc, h, hl => by
    obtain ⟨σ', e1, e2, e3⟩ := h x (by simp)
    unfold lcGo
    rw [hok]
    simp only [Bool.not_true, Bool.false_eq_true, if_false]
    rw [e1]
    dsimp only
    rw [e2]
    dsimp only
    rw [if_pos rfl, e3]
    dsimp only
    simp only [List.length_cons] at hl
    rw [if_pos (by omega), lc_all hok r (f x :: acc) (fun y hy => h y (List.mem_cons_of_mem _ hy)) (by simp only [List.length_cons]; omega)]
    simp
/-! ### texts -/
def SOk (s : Str) : Prop := PyData.strOk s = true ∧ s.length ≤ 500
def sOf (l : List Nat) : Str := ⟨l.toArray⟩
theorem sOf_list (l : List Nat) : (sOf l).cps.toList = l := rfl
theorem sOf_len (l : List Nat) : (sOf l).length = l.length := by simp [sOf, Str.length]
theorem sOf_self (s : Str) : sOf s.cps.toList = s := by cases s; rfl
theorem sOf_inj {a b : List Nat} (h : sOf a = sOf b) : a = b := by
  have := congrArg (fun s => s.cps.toList) h
  simpa [sOf] using this
theorem str_ext {a b : Str} (h : a.cps.toList = b.cps.toList) : a = b := by rw [← sOf_self a, h, sOf_self]
theorem sOf_append (a b : List Nat) : sOf a ++ sOf b = sOf (a ++ b) := by
  show Str.append _ _ = _
  simp [sOf, Str.append]
theorem len_list (s : Str) : s.cps.toList.length = s.length := Array.length_toList
/-! ### equality -/
mutual
def dp : PV → Nat
  | .tup l => dps l + 1
  | .lst l => dps l + 1
  | .non => 0 | .bl _ => 0 | .int _ => 0 | .str _ => 0 | .dct _ _ => 0 | .err _ _ _ => 0 | .ref _ => 0
def dps : List PV → Nat
  | [] => 0
  | v :: r => max (dp v) (dps r)
end
mutual
def okV : PV → Bool
  | .tup l => okVs l
  | .lst l => okVs l
  | .str s => PyData.strOk s
  | .non => true | .int _ => true
  | .bl _ => false | .dct _ _ => false | .err _ _ _ => false | .ref _ => false
def okVs : List PV → Bool
  | [] => true
  | v :: r => okV v && okVs r
end
mutual
theorem okV_pd : ∀ v : PV, okV v = true → ∃ d, toPD v = some d ∧ d.canLay0 = true ∧ d.depth = dp v ∧ noRef v = true
  | .non, _ => ⟨.none, by simp [toPD], by simp [PyData.canLay0], by simp [PyData.depth, dp], by simp [noRef]⟩
  | .int i, _ => ⟨.int i, by simp [toPD], by simp [PyData.canLay0], by simp [PyData.depth, dp], by simp [noRef]⟩
  | .str s, h => ⟨.str s, by simp [toPD], by simpa [PyData.canLay0, okV] using h, by simp [PyData.depth, dp], by simp [noRef]⟩
  | .tup l, h => by
    obtain ⟨ds, e1, e2, e3, e4⟩ := okVs_pd l (by simpa [okV] using h)
    exact ⟨.tuple ds, by simp [toPD, e1], by simpa [PyData.canLay0] using e2, by simp [PyData.depth, dp, e3], by simpa [noRef] using e4⟩
  | .lst l, h => by
    obtain ⟨ds, e1, e2, e3, e4⟩ := okVs_pd l (by simpa [okV] using h)
    exact ⟨.list ds, by simp [toPD, e1], by simpa [PyData.canLay0] using e2, by simp [PyData.depth, dp, e3], by simpa [noRef] using e4⟩
  | .bl _, h => by simp [okV] at h
  | .dct _ _, h => by simp [okV] at h
  | .err _ _ _, h => by simp [okV] at h
  | .ref _, h => by simp [okV] at h
theorem okVs_pd : ∀ l : List PV, okVs l = true → ∃ ds, toPDs l = some ds ∧ PyData.canLayAll0 ds = true ∧ PyData.depthAll ds = dps l ∧ noRefs l = true
  | [], _ => ⟨[], by simp [toPDs], by simp [PyData.canLayAll0], by simp [PyData.depthAll, dps], by simp [noRefs]⟩
  | v :: r, h => by
    have h2 : okV v = true ∧ okVs r = true := by simpa [okVs] using h
    obtain ⟨d, a1, a2, a3, a4⟩ := okV_pd v h2.1
    obtain ⟨ds, b1, b2, b3, b4⟩ := okVs_pd r h2.2
    exact ⟨d :: ds, by simp [toPDs, a1, b1], by simp [PyData.canLayAll0, a2, b2], by simp [PyData.depthAll, dps, a3, b3], by simp [noRefs, a4, b4]⟩
end
theorem other (b : PV) (db : PyData) (hb : okV b = true) (eb : toPD b = some db) (a : PV) (da : PyData) (h1 : PyData.eqv da .none = bqV a .non) (h2 : ∀ i, PyData.eqv da (.int i) = bqV a (.int i)) (h3 : ∀ i, PyData.eqv da (.str i) = bqV a (.str i)) (h4 : ∀ l j, PyData.eqv da (.tuple j) = bqV a (.tup l)) (h5 : ∀ l j, PyData.eqv da (.list j) = bqV a (.lst l)) : PyData.eqv da db = bqV a b := by
  cases b with
  | non => have e : db = .none := by simpa [toPD] using eb.symm
           subst e; exact h1
  | int i => have e : db = .int i := by simpa [toPD] using eb.symm
             subst e; exact h2 i
  | str i => have e : db = .str i := by simpa [toPD] using eb.symm
             subst e; exact h3 i
  | tup r =>
    obtain ⟨dr, f1, _⟩ := okVs_pd r (by simpa [okV] using hb)
    have f2 : db = .tuple dr := by simpa [toPD, f1] using eb.symm
    subst f2
    exact h4 r dr
  | lst r =>
    obtain ⟨dr, f1, _⟩ := okVs_pd r (by simpa [okV] using hb)
    have f2 : db = .list dr := by simpa [toPD, f1] using eb.symm
    subst f2
    exact h5 r dr
  | bl _ => simp [okV] at hb
  | dct _ _ => simp [okV] at hb
  | err _ _ _ => simp [okV] at hb
  | ref _ => simp [okV] at hb
mutual
theorem eqv_bq : ∀ (a b : PV) (da db : PyData), okV a = true → okV b = true → toPD a = some da → toPD b = some db → PyData.eqv da db = bqV a b
  | .non, b, da, db, ha, hb, ea, eb => by
    have e : da = .none := by simpa [toPD] using ea.symm
    subst e
    exact other b db hb eb .non .none (by simp [PyData.eqv, bqV]) (by intro i; simp [PyData.eqv, bqV]) (by intro i; simp [PyData.eqv, bqV]) (by intro i j; simp [PyData.eqv, bqV]) (by intro i j; simp [PyData.eqv, bqV])
  | .int i, b, da, db, ha, hb, ea, eb => by
    have e : da = .int i := by simpa [toPD] using ea.symm
    subst e
    exact other b db hb eb (.int i) (.int i) (by simp [PyData.eqv, bqV]) (by intro i; simp [PyData.eqv, bqV]) (by intro i; simp [PyData.eqv, bqV]) (by intro i j; simp [PyData.eqv, bqV]) (by intro i j; simp [PyData.eqv, bqV])
  | .str i, b, da, db, ha, hb, ea, eb => by
    have e : da = .str i := by simpa [toPD] using ea.symm
    subst e
    exact other b db hb eb (.str i) (.str i) (by simp [PyData.eqv, bqV]) (by intro i; simp [PyData.eqv, bqV]) (by intro i; simp [PyData.eqv, bqV]) (by intro i j; simp [PyData.eqv, bqV]) (by intro i j; simp [PyData.eqv, bqV])
  | .tup l, b, da, db, ha, hb, ea, eb => by
    have ha2 : okVs l = true := by simpa [okV] using ha
    obtain ⟨ds, e1, _⟩ := okVs_pd l ha2
    have e2 : da = .tuple ds := by simpa [toPD, e1] using ea.symm
    subst e2
    cases b with
    | tup r =>
      have hb2 : okVs r = true := by simpa [okV] using hb
      obtain ⟨dr, f1, _⟩ := okVs_pd r hb2
      have f2 : db = .tuple dr := by simpa [toPD, f1] using eb.symm
      subst f2
      simpa [PyData.eqv, bqV] using eqvs_bq l r ds dr ha2 hb2 e1 f1
    | lst r =>
      obtain ⟨dr, f1, _⟩ := okVs_pd r (by simpa [okV] using hb)
      have f2 : db = .list dr := by simpa [toPD, f1] using eb.symm
      subst f2
      simp [PyData.eqv, bqV]
    | _ => simp_all [toPD, okV] <;> subst_vars <;> simp [PyData.eqv, bqV]
  | .lst l, b, da, db, ha, hb, ea, eb => by
    have ha2 : okVs l = true := by simpa [okV] using ha
    obtain ⟨ds, e1, _⟩ := okVs_pd l ha2
    have e2 : da = .list ds := by simpa [toPD, e1] using ea.symm
    subst e2
    cases b with
    | lst r =>
      have hb2 : okVs r = true := by simpa [okV] using hb
      obtain ⟨dr, f1, _⟩ := okVs_pd r hb2
      have f2 : db = .list dr := by simpa [toPD, f1] using eb.symm
      subst f2
      simpa [PyData.eqv, bqV] using eqvs_bq l r ds dr ha2 hb2 e1 f1
    | tup r =>
      obtain ⟨dr, f1, _⟩ := okVs_pd r (by simpa [okV] using hb)
      have f2 : db = .tuple dr := by simpa [toPD, f1] using eb.symm
      subst f2
      simp [PyData.eqv, bqV]
    | _ => simp_all [toPD, okV] <;> subst_vars <;> simp [PyData.eqv, bqV]
  | .bl _, _, _, _, ha, _, _, _ => by simp [okV] at ha
  | .dct _ _, _, _, _, ha, _, _, _ => by simp [okV] at ha
  | .err _ _ _, _, _, _, ha, _, _, _ => by simp [okV] at ha
  | .ref _, _, _, _, ha, _, _, _ => by simp [okV] at ha
theorem eqvs_bq : ∀ (a b : List PV) (da db : List PyData), okVs a = true → okVs b = true → toPDs a = some da → toPDs b = some db → PyData.eqvAll da db = bqs a b
  | [], [], da, db, _, _, ea, eb => by simp [toPDs] at ea eb; subst ea; subst eb; simp [PyData.eqvAll, bqs]
  | [], y :: s, da, db, _, hb, ea, eb => by
    obtain ⟨dr, f1, _⟩ := okVs_pd (y :: s) hb
    have h2 : okV y = true ∧ okVs s = true := by simpa [okVs] using hb
    obtain ⟨d, g1, _⟩ := okV_pd y h2.1
    obtain ⟨t, g2, _⟩ := okVs_pd s h2.2
    simp [toPDs, g1, g2] at ea eb
    subst ea; subst eb
    simp [PyData.eqvAll, bqs]
  | x :: r, [], da, db, ha, _, ea, eb => by
    have h2 : okV x = true ∧ okVs r = true := by simpa [okVs] using ha
    obtain ⟨d, g1, _⟩ := okV_pd x h2.1
    obtain ⟨t, g2, _⟩ := okVs_pd r h2.2
    simp [toPDs, g1, g2] at ea eb
    subst ea; subst eb
    simp [PyData.eqvAll, bqs]
  | x :: r, y :: s, da, db, ha, hb, ea, eb => by
    have h2 : okV x = true ∧ okVs r = true := by simpa [okVs] using ha
    obtain ⟨d, g1, _⟩ := okV_pd x h2.1
    obtain ⟨t, g2, _⟩ := okVs_pd r h2.2
    have h3 : okV y = true ∧ okVs s = true := by simpa [okVs] using hb
    obtain ⟨d', g1', _⟩ := okV_pd y h3.1
    obtain ⟨t', g2', _⟩ := okVs_pd s h3.2
    simp [toPDs, g1, g2] at ea
    simp [toPDs, g1', g2'] at eb
    subst ea; subst eb
    simp only [PyData.eqvAll, bqs, eqv_bq x y d d' h2.1 h3.1 g1 g1', eqvs_bq r s t t' h2.2 h3.2 g2 g2']
end
theorem eqV2_fr {S : Sto} {a b a' b' : PV} (fa : frzV S a = some a') (fb : frzV S b = some b') (ha : okV a' = true) (hb : okV b' = true) (hd : min (dp a') (dp b') ≤ 100) : eqV2 S a b = some (bqV a' b') := by
  obtain ⟨da, a1, a2, a3, _⟩ := okV_pd a' ha
  obtain ⟨db, b1, b2, b3, _⟩ := okV_pd b' hb
  unfold eqV2
  rw [fa, fb]
  simp only [Option.bind_some, a1, b1]
  unfold eqPD
  rw [if_pos ⟨a2, b2, by rw [a3, b3]; exact hd⟩, eqv_bq a' b' da db ha hb a1 b1]
theorem okV_noRef {v : PV} (h : okV v = true) : noRef v = true := by
  obtain ⟨_, _, _, _, e⟩ := okV_pd v h
  exact e
theorem eqV2_ok {S : Sto} {a b : PV} (ha : okV a = true) (hb : okV b = true) (hd : min (dp a) (dp b) ≤ 100) : eqV2 S a b = some (bqV a b) := eqV2_fr (frzV_self (okV_noRef ha)) (frzV_self (okV_noRef hb)) ha hb hd
theorem eqV2_str {S : Sto} {a b : Str} (ha : PyData.strOk a = true) (hb : PyData.strOk b = true) : eqV2 S (.str a) (.str b) = some (a == b) := by
  rw [eqV2_ok (by simpa [okV] using ha) (by simpa [okV] using hb) (by simp [dp])]
  simp [bqV]
theorem frz_ref {S : Sto} {n : Nat} {l : List PV} (h : S[n]? = some (.lst l)) (hn : noRefs l = true) : frzV S (.ref n) = some (.lst l) := by
  unfold frzV
  rw [if_neg (by simp [noRef])]
  have go : ∀ l : List PV, noRefs l = true → allO (frz S 69) l = some l := by
    intro l
    induction l with
    | nil => intro _; rfl
    | cons v r ih =>
      intro h
      have h2 := noRefs_cons.mp h
      unfold allO
      rw [ih h2.2]
      unfold frz
      rw [if_pos h2.1]
  show frz S (69 + 1) (.ref n) = _
  unfold frz
  rw [if_neg (by simp [noRef])]
  dsimp only
  rw [h]
  dsimp only
  rw [go l hn]
  rfl
/-! ### slices -/
theorem slice_ab {x : Str} {a b : Nat} (h1 : a ≤ b) (h2 : b ≤ x.length) : (Txt.slice x (some (a : Int)) (some (b : Int))).cps.toList = (x.cps.toList.drop a).take (b - a) := by
  unfold Txt.slice
  split
  · rename_i h
    rw [StrLaws.strSliceIndices_plain h1 h2, List.length_map, List.length_range, Bool.and_eq_true, beq_iff_eq, beq_iff_eq] at h
    have l := len_list x
    have h3 := h.2
    have e1 : a = 0 := by omega
    have e2 : b = x.cps.toList.length := by omega
    rw [e1, e2, List.drop_zero, Nat.sub_zero, List.take_length]
  · rw [StrLaws.sliced_plain x h1 h2]
theorem slice_0 {x : Str} {h : Option Int} : Txt.slice x none h = Txt.slice x (some ((0 : Nat) : Int)) h := by
  have e : PySem.Builtin.Str.strSliceIndices none h 1 x.length = PySem.Builtin.Str.strSliceIndices (some ((0 : Nat) : Int)) h 1 x.length := by
    have e : max (0 : Int) (min 0 (x.length : Int)) = 0 := by omega
    simp [PySem.Builtin.Str.strSliceIndices, e]
  unfold Txt.slice
  rw [e]
theorem slice_n {x : Str} {l : Option Int} : Txt.slice x l none = Txt.slice x l (some (x.length : Int)) := by
  have e : PySem.Builtin.Str.strSliceIndices l none 1 x.length = PySem.Builtin.Str.strSliceIndices l (some (x.length : Int)) 1 x.length := by
    unfold PySem.Builtin.Str.strSliceIndices
    have h1 : ¬ ((x.length : Int) < 0) := by omega
    simp [h1]
  unfold Txt.slice
  rw [e]
theorem slice_to {x : Str} {b : Nat} (h : b ≤ x.length) : (Txt.slice x none (some (b : Int))).cps.toList = x.cps.toList.take b := by
  rw [slice_0, slice_ab (Nat.zero_le _) h, List.drop_zero, Nat.sub_zero]
theorem slice_from {x : Str} {a : Nat} : (Txt.slice x (some (a : Int)) none).cps.toList = x.cps.toList.drop a := by
  by_cases h : a ≤ x.length
  · rw [slice_n, slice_ab h (Nat.le_refl _), ← len_list, ← List.length_drop, List.take_length]
  · have e : Txt.slice x (some (a : Int)) none = Txt.slice x (some (x.length : Int)) none := by
      unfold Txt.slice
      rw [sliceIdx_lo_beyond x.length (i := (a : Int)) (by omega)]
    rw [e, slice_n, slice_ab (Nat.le_refl _) (Nat.le_refl _), Nat.sub_self, List.take_zero, List.drop_eq_nil_of_le (by rw [len_list]; omega)]
end Ev.K88

set_option Elab.async false
set_option linter.all false
set_option maxRecDepth 100000
/-! rules of the evaluator -/
namespace Ev
open PySem L2
namespace R
section
variable {C : Ctx} {σ σ1 σ2 : Sl} {S S1 S2 S3 : Sto}
abbrev E (C : Ctx) (e : IE) (σ : Sl) (S : Sto) (v : PV) (S1 : Sto) : Prop := evE C e σ S = .ok v S1
abbrev Es (C : Ctx) (e : IEs) (σ : Sl) (S : Sto) (v : List PV) (S1 : Sto) : Prop := evEs C e σ S = .ok v S1
theorem var {i : Nat} {v : PV} (h : σ[i]? = some (some v)) : E C (.var i) σ S v S := by
  show evE C _ _ _ = _
  unfold evE
  rw [h]
theorem cst {v : PV} : E C (.cst v) σ S v S := by
  show evE C _ _ _ = _
  unfold evE
  rfl
theorem gl {k : Nat} {v : PV} (h : C.gls[k]? = some v) : E C (.gl k) σ S v S := by
  show evE C _ _ _ = _
  unfold evE
  rw [h]
  rfl
theorem nil : Es C .nil σ S [] S := by
  show evEs C _ _ _ = _
  unfold evEs
  rfl
theorem cons {e : IE} {es : IEs} {v : PV} {vs : List PV} (h : E C e σ S v S1) (k : Es C es σ S1 vs S2) : Es C (.cons e es) σ S (v :: vs) S2 := by
  show evEs C _ _ _ = _
  unfold evEs
  rw [h]
  show (evEs C es σ S1).bind _ = _
  rw [k]
  rfl
theorem tup {es : IEs} {vs : List PV} (h : Es C es σ S vs S1) : E C (.tup es) σ S (.tup vs) S1 := by
  show evE C _ _ _ = _
  unfold evE
  rw [h]
  rfl
theorem lstF {es : IEs} {vs : List PV} (h : Es C es σ S vs S1) : E C (.lst false es) σ S (.lst vs) S1 := by
  show evE C _ _ _ = _
  unfold evE
  rw [h]
  rfl
theorem lstT {es : IEs} {vs : List PV} (h : Es C es σ S vs S1) : E C (.lst true es) σ S (.ref S1.length) (S1 ++ [.lst vs]) := by
  show evE C _ _ _ = _
  unfold evE
  rw [h]
  rfl
theorem bin {op : BOp} {a b : IE} {x y z : PV} (h : E C a σ S x S1) (k : E C b σ S1 y S2) (e : binV op x y = some z) : E C (.bin op a b) σ S z S2 := by
  show evE C _ _ _ = _
  unfold evE
  rw [h]
  show (evE C b σ S1).bind _ = _
  rw [k]
  show ofO (binV op x y) S2 = _
  rw [e]
  rfl
theorem not {a : IE} {b : Bool} (h : E C a σ S (.bl b) S1) : E C (.not a) σ S (.bl !b) S1 := by
  show evE C _ _ _ = _
  unfold evE
  rw [h]
  rfl
theorem bandT {a b : IE} {v : PV} (h : E C a σ S (.bl true) S1) (k : E C b σ S1 v S2) : E C (.band a b) σ S v S2 := by
  show evE C _ _ _ = _
  unfold evE
  rw [h]
  exact k
theorem bandF {a b : IE} (h : E C a σ S (.bl false) S1) : E C (.band a b) σ S (.bl false) S1 := by
  show evE C _ _ _ = _
  unfold evE
  rw [h]
  rfl
theorem borF {a b : IE} {v : PV} (h : E C a σ S (.bl false) S1) (k : E C b σ S1 v S2) : E C (.bor a b) σ S v S2 := by
  show evE C _ _ _ = _
  unfold evE
  rw [h]
  exact k
theorem borT {a b : IE} (h : E C a σ S (.bl true) S1) : E C (.bor a b) σ S (.bl true) S1 := by
  show evE C _ _ _ = _
  unfold evE
  rw [h]
  rfl
/-- and, where neither side touches the store -/
theorem band {a b : IE} {p q : Bool} (h : E C a σ S (.bl p) S) (k : p = true → E C b σ S (.bl q) S) : E C (.band a b) σ S (.bl (p && q)) S := by
  cases p
  · exact bandF h
  · exact bandT h (k rfl)
theorem bor {a b : IE} {p q : Bool} (h : E C a σ S (.bl p) S) (k : p = false → E C b σ S (.bl q) S) : E C (.bor a b) σ S (.bl (p || q)) S := by
  cases p
  · exact borF h (k rfl)
  · exact borT h
theorem ife {c a b : IE} {p : Bool} {v : PV} (h : E C c σ S (.bl p) S1) (k : p = true → E C a σ S1 v S2) (l : p = false → E C b σ S1 v S2) : E C (.ife c a b) σ S v S2 := by
  show evE C _ _ _ = _
  unfold evE
  rw [h]
  cases p
  · exact l rfl
  · exact k rfl
theorem cmp {op : COp} {a b : IE} {x y : PV} {r : Bool} (h : E C a σ S x S1) (k : E C b σ S1 y S2) (e : cmpV S2 op x y = some r) : E C (.cmp op a b) σ S (.bl r) S2 := by
  show evE C _ _ _ = _
  unfold evE
  rw [h]
  show (evE C b σ S1).bind _ = _
  rw [k]
  show ofO ((cmpV S2 op x y).map PV.bl) S2 = _
  rw [e]
  rfl
theorem chain {o1 o2 : COp} {a b c : IE} {x y z : PV} {p q : Bool} (h : E C a σ S x S) (k : E C b σ S y S) (e : cmpV S o1 x y = some p) (l : E C c σ S z S) (f : cmpV S o2 y z = some q) : E C (.chain o1 o2 a b c) σ S (.bl (p && q)) S := by
  show evE C _ _ _ = _
  unfold evE
  rw [h]
  show (evE C b σ S).bind _ = _
  rw [k]
  show (match cmpV S o1 x y with
    | none => .bad
    | some false => .ok (.bl false) S
    | some true => (evE C c σ S).bind fun z S3 => ofO ((cmpV S3 o2 y z).map PV.bl) S3 : Rs PV) = _
  rw [e]
  cases p
  · rfl
  · show (evE C c σ S).bind _ = _
    rw [l]
    show ofO ((cmpV S o2 y z).map PV.bl) S = _
    rw [f]
    rfl
theorem call {f : Nat} {es : IEs} {vs : List PV} {v : PV} (h : Es C es σ S vs S1) (k : C.call f vs S1 = .ok v S2) : E C (.call f es) σ S v S2 := by
  show evE C _ _ _ = _
  unfold evE
  rw [h]
  exact k
theorem callX {f : Nat} {es : IEs} {vs : List PV} {c : Nat} {fs : List PV} (h : Es C es σ S vs S1) (k : C.call f vs S1 = .ex c fs S2) : evE C (.call f es) σ S = .ex c fs S2 := by
  unfold evE
  rw [h]
  exact k
theorem dict {ks : List Str} {es : IEs} {vs : List PV} (h : Es C es σ S vs S1) (k : vs.length = ks.length ∧ ks.length ≤ 15 ∧ ks.Nodup) : E C (.dict ks es) σ S (.ref S1.length) (S1 ++ [.dct ((ks.map Sum.inr).zip vs)]) := by
  show evE C _ _ _ = _
  unfold evE
  rw [h]
  show (if vs.length = ks.length ∧ ks.length ≤ 15 ∧ ks.Nodup then Rs.ok (PV.ref S1.length) (S1 ++ [.dct ((ks.map Sum.inr).zip vs)]) else .bad) = _
  rw [if_pos k]
theorem bi {b : Blt} {e : IE} {x v : PV} (h : E C e σ S x S1) (k : biV S1 b x = some v) : E C (.bi b e) σ S v S1 := by
  show evE C _ _ _ = _
  unfold evE
  rw [h]
  show ofO (biV S1 b x) S1 = _
  rw [k]
  rfl
theorem bi2 {b : Blt} {e f : IE} {x y v : PV} (h : E C e σ S x S1) (l : E C f σ S1 y S2) (k : biV2 b x y = some v) : E C (.bi2 b e f) σ S v S2 := by
  show evE C _ _ _ = _
  unfold evE
  rw [h]
  show (evE C f σ S1).bind _ = _
  rw [l]
  show ofO (biV2 b x y) S2 = _
  rw [k]
  rfl
theorem isi {e : IE} {t : Ty} {x : PV} {r : Bool} (h : E C e σ S x S1) (k : tyOk S1 x = true) (l : isTy S1 t x = r) : E C (.isi e t) σ S (.bl r) S1 := by
  show evE C _ _ _ = _
  unfold evE
  rw [h]
  show (if tyOk S1 x then Rs.ok (PV.bl (isTy S1 t x)) S1 else .bad) = _
  rw [if_pos k, l]
theorem isis {e : IE} {t : List Ty} {x : PV} {r : Bool} (h : E C e σ S x S1) (k : tyOk S1 x = true) (l : (t.any fun t => isTy S1 t x) = r) : E C (.isis e t) σ S (.bl r) S1 := by
  show evE C _ _ _ = _
  unfold evE
  rw [h]
  show (if tyOk S1 x then Rs.ok (PV.bl (t.any fun t => isTy S1 t x)) S1 else .bad) = _
  rw [if_pos k, l]
theorem idx {a b : IE} {x y v : PV} (h : E C a σ S x S1) (k : E C b σ S1 y S2) (e : idxV S2 x y = some v) : E C (.idx a b) σ S v S2 := by
  show evE C _ _ _ = _
  unfold evE
  rw [h]
  show (evE C b σ S1).bind _ = _
  rw [k]
  show ofO (idxV S2 x y) S2 = _
  rw [e]
  rfl
theorem slc {m : Bool} {a : IE} {lo hi : IO} {x v : PV} {l u : Option Int} (h : E C a σ S x S) (k : evO C lo σ S = .ok l S) (j : evO C hi σ S = .ok u S) (e : slcR m S x l u = .ok v S1) : E C (.slc m a lo hi) σ S v S1 := by
  show evE C _ _ _ = _
  unfold evE
  rw [h]
  show (evO C lo σ S).bind _ = _
  rw [k]
  show (evO C hi σ S).bind _ = _
  rw [j]
  exact e
theorem oN : evO C .none σ S = .ok none S := by
  unfold evO
  rfl
theorem oS {e : IE} {i : Int} (h : E C e σ S (.int i) S1) : evO C (.some e) σ S = .ok (some i) S1 := by
  unfold evO
  rw [h]
  rfl
theorem meth {k : Mth} {o : IE} {es : IEs} {x v : PV} {vs : List PV} (h : E C o σ S x S1) (t : mTy S1 k x = true) (l : Es C es σ S1 vs S2) (e : methV k x vs S2 = .ok v S3) : E C (.meth k o es) σ S v S3 := by
  show evE C _ _ _ = _
  unfold evE
  rw [h]
  show (if mTy S1 k x then (evEs C es σ S1).bind fun vs S2 => methV k x vs S2 else .bad) = _
  rw [if_pos t, l]
  exact e
theorem lc {m : Bool} {own : List Nat} {tg : Tg} {src : Src} {ifs : IO} {elt : IE} {w : Walk} {vs : List PV} {r : PV} (h : evSrc C src σ S = .ok w S1) (k : lcGo (fun S' => stays S' w) (fun σ' S' => evE C elt σ' S') (fun σ' S' => evIf C ifs σ' S') tg (wipeP σ own) w.1 S1 [] = .ok vs S2) (e : newL m vs S2 = .ok r S3) : E C (.lc m own tg src ifs elt) σ S r S3 := by
  show evE C _ _ _ = _
  unfold evE
  rw [h]
  show (lcGo _ _ _ _ _ _ _ _).bind _ = _
  rw [k]
  exact e
theorem wordOk {e : IE} {v : PV} (h : E C e σ S v S1) : E C (.word e) σ S v S1 := by
  show evE C _ _ _ = _
  unfold evE
  rw [h]
theorem wordEx {e : IE} {c : Nat} {fs : List PV} {v : PV} (h : evE C e σ S = .ex c fs S1) (k : C.word c fs = some v) : E C (.word e) σ S v S1 := by
  show evE C _ _ _ = _
  unfold evE
  rw [h]
  show ofO (C.word c fs) S1 = _
  rw [k]
  rfl
theorem listOf_ref {n : Nat} {l : List PV} (h : S[n]? = some (.lst l)) : listOf S (.ref n) = some l := by
  show (match S[n]? with
    | some (.lst l) => some l
    | _ => none) = _
  rw [h]
theorem itemsOf_ref {n : Nat} {l : List PV} (h : S[n]? = some (.lst l)) : itemsOf S (.ref n) = some l := by
  show (match S[n]? with
    | some (.lst l) => some l
    | _ => none) = _
  rw [h]
theorem append {o e : IE} {n : Nat} {l : List PV} {v : PV} (h : E C o σ S (.ref n) S1) (h1 : S1[n]? = some (.lst l)) (k : E C e σ S1 v S2) (h2 : S2[n]? = some (.lst l)) (hl : l.length < 16000000) : E C (.meth .append o (.cons e .nil)) σ S .non (S2.set n (.lst (l ++ [v]))) := by
  refine meth h ?_ (cons k nil) ?_
  · show (listOf S1 (.ref n)).isSome = true
    rw [listOf_ref h1]
    rfl
  · show (match S2[n]? with
      | some (.lst l) => if l.length < 16000000 then Rs.ok PV.non (S2.set n (.lst (l ++ [v]))) else .bad
      | _ => .bad) = _
    rw [h2]
    dsimp only
    rw [if_pos hl]
theorem extendT {o e : IE} {n : Nat} {l r : List PV} (h : E C o σ S (.ref n) S1) (h1 : S1[n]? = some (.lst l)) (k : E C e σ S1 (.tup r) S2) (h2 : S2[n]? = some (.lst l)) (hl : l.length + r.length ≤ 16000000) : E C (.meth .extend o (.cons e .nil)) σ S .non (S2.set n (.lst (l ++ r))) := by
  refine meth h ?_ (cons k nil) ?_
  · show (listOf S1 (.ref n)).isSome = true
    rw [listOf_ref h1]
    rfl
  · show (match S2[n]? with
      | some (.lst l) => if l.length + r.length ≤ 16000000 then Rs.ok PV.non (S2.set n (.lst (l ++ r))) else .bad
      | _ => .bad) = _
    rw [h2]
    dsimp only
    rw [if_pos hl]
theorem extendR {o e : IE} {n m : Nat} {l r : List PV} (h : E C o σ S (.ref n) S1) (h1 : S1[n]? = some (.lst l)) (k : E C e σ S1 (.ref m) S2) (h2 : S2[n]? = some (.lst l)) (h3 : S2[m]? = some (.lst r)) (hl : l.length + r.length ≤ 16000000) : E C (.meth .extend o (.cons e .nil)) σ S .non (S2.set n (.lst (l ++ r))) := by
  refine meth h ?_ (cons k nil) ?_
  · show (listOf S1 (.ref n)).isSome = true
    rw [listOf_ref h1]
    rfl
  · show (match S2[n]? with
      | some (.lst l) => (match S2[m]? with
        | some (.lst r) => if l.length + r.length ≤ 16000000 then Rs.ok PV.non (S2.set n (.lst (l ++ r))) else .bad
        | _ => .bad)
      | _ => .bad) = _
    rw [h2]
    dsimp only
    rw [h3]
    dsimp only
    rw [if_pos hl]
theorem pop {o : IE} {n : Nat} {l : List PV} {y : PV} (h : E C o σ S (.ref n) S1) (h1 : S1[n]? = some (.lst (l ++ [y]))) : E C (.meth .pop o .nil) σ S y (S1.set n (.lst l)) := by
  refine meth h ?_ nil ?_
  · show (listOf S1 (.ref n)).isSome = true
    rw [listOf_ref h1]
    rfl
  · show (match S1[n]? with
      | some (.lst l) => (match l[l.length - 1]? with
        | some y => Rs.ok y (S1.set n (.lst l.dropLast))
        | none => .bad)
      | _ => .bad) = _
    rw [h1]
    simp
/-! sources -/
def refOf : PV → Option Nat
  | .ref n => some n
  | _ => none
theorem seq {e : IE} {v : PV} {l : List PV} (h : E C e σ S v S1) (k : srcOf S1 v = some l) : evSrc C (.seq e) σ S = .ok (l, refOf v) S1 := by
  unfold evSrc
  rw [h]
  show (match srcOf S1 v with
    | some l => _
    | none => .bad : Rs Walk) = _
  rw [k]
  cases v <;> rfl
theorem rng {e : IE} {i : Int} (h : E C e σ S (.int i) S1) (k : rngOk 0 i = true) : evSrc C (.rng e) σ S = .ok (rngItems 0 i, none) S1 := by
  unfold evSrc
  rw [h]
  show (if rngOk 0 i then .ok (rngItems 0 i, none) S1 else .bad : Rs Walk) = _
  rw [if_pos k]
theorem enr {e : IE} {l : List PV} (h : E C e σ S (.tup l) S1) : evSrc C (.enr e) σ S = .ok (enum l.reverse, none) S1 := by
  unfold evSrc
  rw [h]
  rfl
/-! statements -/
abbrev St (C : Ctx) (s : IS) (σ : Sl) (S : Sto) (o : Out) (S1 : Sto) : Prop := evS C s σ S = .ok o S1
abbrev Ss (C : Ctx) (s : ISs) (σ : Sl) (S : Sto) (o : Out) (S1 : Sto) : Prop := evSs C s σ S = .ok o S1
theorem ssN : Ss C .nil σ S (.nx σ) S := by
  show evSs C _ _ _ = _
  unfold evSs
  rfl
theorem ssC {s : IS} {r : ISs} {o : Out} (h : St C s σ S (.nx σ1) S1) (k : Ss C r σ1 S1 o S2) : Ss C (.cons s r) σ S o S2 := by
  show evSs C _ _ _ = _
  unfold evSs
  rw [h]
  exact k
theorem ssR {s : IS} {r : ISs} {v : PV} (h : St C s σ S (.rt v) S1) : Ss C (.cons s r) σ S (.rt v) S1 := by
  show evSs C _ _ _ = _
  unfold evSs
  rw [h]
theorem ssK {s : IS} {r : ISs} (h : St C s σ S (.ct σ1) S1) : Ss C (.cons s r) σ S (.ct σ1) S1 := by
  show evSs C _ _ _ = _
  unfold evSs
  rw [h]
theorem asg {i : Nat} {e : IE} {v : PV} (h : E C e σ S v S1) : St C (.asg i e) σ S (.nx (σ.set i (some v))) S1 := by
  show evS C _ _ _ = _
  unfold evS
  rw [h]
  rfl
theorem par {is : List Nat} {es : IEs} {vs : List PV} (h : Es C es σ S vs S1) (l : vs.length = is.length) : St C (.par is es) σ S (.nx (setMany is vs σ)) S1 := by
  show evS C _ _ _ = _
  unfold evS
  rw [h]
  show (if vs.length = is.length then Rs.ok (Out.nx (setMany is vs σ)) S1 else .bad) = _
  rw [if_pos l]
theorem sub {o i e : IE} {v x k : PV} {S4 : Sto} (h : E C e σ S v S1) (h2 : E C o σ S1 x S2) (h3 : E C i σ S2 k S3) (h4 : subV x k v S3 = some S4) : St C (.sub o i e) σ S (.nx σ) S4 := by
  show evS C _ _ _ = _
  unfold evS
  rw [h]
  show (evE C o σ S1).bind _ = _
  rw [h2]
  show (evE C i σ S2).bind _ = _
  rw [h3]
  show (match subV x k v S3 with | some S4 => .ok (.nx σ) S4 | none => .bad : Rs Out) = _
  rw [h4]
theorem expr {e : IE} {v : PV} (h : E C e σ S v S1) : St C (.expr e) σ S (.nx σ) S1 := by
  show evS C _ _ _ = _
  unfold evS
  rw [h]
  rfl
theorem ret {e : IE} {v : PV} (h : E C e σ S v S1) : St C (.ret e) σ S (.rt v) S1 := by
  show evS C _ _ _ = _
  unfold evS
  rw [h]
  rfl
theorem ifs {c : IE} {a b : ISs} {p : Bool} {o : Out} (h : E C c σ S (.bl p) S1) (k : p = true → Ss C a σ S1 o S2) (l : p = false → Ss C b σ S1 o S2) : St C (.ifs c a b) σ S o S2 := by
  show evS C _ _ _ = _
  unfold evS
  rw [h]
  cases p
  · exact l rfl
  · exact k rfl
theorem aug {i : Nat} {e : IE} {a b : Int} (hx : σ[i]? = some (some (.int a))) (h : E C e σ S (.int b) S1) : St C (.aug i .add e) σ S (.nx (σ.set i (some (.int (a + b))))) S1 := by
  show evS C _ _ _ = _
  unfold evS
  rw [hx]
  dsimp only
  rw [h]
  rfl
theorem for_ {tg : Tg} {src : Src} {b : ISs} {w : Walk} {o : Out} (h : evSrc C src σ S = .ok w S1) (k : forGo (fun S' => stays S' w) (fun σ' S' => evSs C b σ' S') tg w.1 σ S1 = .ok o S2) : St C (.for tg src b) σ S o S2 := by
  show evS C _ _ _ = _
  unfold evS
  rw [h]
  exact k
theorem whl {c : IE} {b : ISs} {o : Out} (k : whlGo (fun σ' S' => asB (evE C c σ' S')) (fun σ' S' => evSs C b σ' S') C.whiles σ S = .ok o S1) : St C (.whl c b) σ S o S1 := by
  show evS C _ _ _ = _
  unfold evS
  exact k
/-! defs -/
theorem run {d : FnD} {ps : List PV} {v : PV} (l : ps.length = d.np) (h : Ss C d.body (ps.map some ++ List.replicate (d.ns - d.np) none) S (.rt v) S1) : runF C d ps S = .ok v S1 := by
  unfold runF
  rw [if_pos l, h]
theorem raise {c : Nat} {es : IEs} {vs fs : List PV} (h : Es C es σ S vs S1) (k : C.mkE c vs = some fs) : evS C (.raise c es) σ S = .ex c fs S1 := by
  unfold evS
  rw [h]
  show (match C.mkE c vs with | some fs => .ex c fs S1 | none => .bad : Rs Out) = _
  rw [k]
theorem ssX {s : IS} {r : ISs} {c : Nat} {fs : List PV} (h : evS C s σ S = .ex c fs S1) : evSs C (.cons s r) σ S = .ex c fs S1 := by
  unfold evSs
  rw [h]
theorem ssCX {s : IS} {r : ISs} {c : Nat} {fs : List PV} (h : St C s σ S (.nx σ1) S1) (k : evSs C r σ1 S1 = .ex c fs S2) : evSs C (.cons s r) σ S = .ex c fs S2 := by
  unfold evSs
  rw [h]
  exact k
theorem ifsX {c : IE} {a b : ISs} {e : Nat} {fs : List PV} (h : E C c σ S (.bl true) S1) (k : evSs C a σ S1 = .ex e fs S2) : evS C (.ifs c a b) σ S = .ex e fs S2 := by
  unfold evS
  rw [h]
  exact k
theorem runX {d : FnD} {ps : List PV} {c : Nat} {fs : List PV} (l : ps.length = d.np) (h : evSs C d.body (ps.map some ++ List.replicate (d.ns - d.np) none) S = .ex c fs S1) : runF C d ps S = .ex c fs S1 := by
  unfold runF
  rw [if_pos l, h]
/-! loops -/
/-- a for: an invariant over what is left -/
theorem forI {ok : Sto → Bool} {body : Sl → Sto → Rs Out} {tg : Tg} (I : List PV → Sl → Sto → Prop) (P : PV → Sto → Prop)
    (hok : ∀ l σ S, I l σ S → ok S = true)
    (hb : ∀ x r σ S, I (x :: r) σ S → ∃ σ1, setTg tg x σ = some σ1 ∧ ((∃ σ2 S2, (body σ1 S = .ok (.nx σ2) S2 ∨ body σ1 S = .ok (.ct σ2) S2) ∧ I r σ2 S2) ∨ ∃ v S2, body σ1 S = .ok (.rt v) S2 ∧ P v S2)) :
    ∀ (l : List PV) (σ : Sl) (S : Sto), I l σ S → (∃ σ2 S2, forGo ok body tg l σ S = .ok (.nx σ2) S2 ∧ I [] σ2 S2) ∨ ∃ v S2, forGo ok body tg l σ S = .ok (.rt v) S2 ∧ P v S2
  | [], σ, S, h => .inl ⟨σ, S, by unfold forGo; rw [if_pos (hok _ _ _ h)], h⟩
  | x :: r, σ, S, h => by
    obtain ⟨σ1, e1, e2⟩ := hb x r σ S h
    unfold forGo
    rw [hok _ _ _ h]
    simp only [Bool.not_true, Bool.false_eq_true, if_false]
    rw [e1]
    dsimp only
    rcases e2 with ⟨σ2, S2, e3, h2⟩ | ⟨v, S2, e3, h2⟩
    · have ih := forI I P hok hb r σ2 S2 h2
      rcases e3 with e3 | e3
      · rw [e3]
        exact ih
      · rw [e3]
        exact ih
    · rw [e3]
      exact .inr ⟨v, S2, rfl, h2⟩
/-- a while: an invariant with a measure -/
theorem whlI {test : Sl → Sto → Rs Bool} {body : Sl → Sto → Rs Out} (I : Nat → Sl → Sto → Prop)
    (P : Sl → Sto → Prop)
    (hb : ∀ m σ S, I m σ S → (∃ S1, test σ S = .ok false S1 ∧ P σ S1) ∨ ∃ S1 σ2 S2 m2, test σ S = .ok true S1 ∧ (body σ S1 = .ok (.nx σ2) S2 ∨ body σ S1 = .ok (.ct σ2) S2) ∧ m2 < m ∧ I m2 σ2 S2) :
    ∀ (n m : Nat) (σ : Sl) (S : Sto), m < n → I m σ S → ∃ σ2 S2, whlGo test body n σ S = .ok (.nx σ2) S2 ∧ P σ2 S2
  | 0, _, _, _, h, _ => absurd h (Nat.not_lt_zero _)
  | n + 1, m, σ, S, h, hi => by
    unfold whlGo
    rcases hb m σ S hi with ⟨S1, e, p⟩ | ⟨S1, σ2, S2, m2, e1, e2, h2, hi2⟩
    · rw [e]
      exact ⟨σ, S1, rfl, p⟩
    · rw [e1]
      show ∃ σ2 S2, (match body σ S1 with
        | .ok (.nx σ2) S2 => whlGo test body n σ2 S2
        | .ok (.ct σ2) S2 => whlGo test body n σ2 S2
        | o => o) = _ ∧ _
      have ih := whlI I P hb n m2 σ2 S2 (by omega) hi2
      rcases e2 with e2 | e2
      · rw [e2]
        exact ih
      · rw [e2]
        exact ih
end
end R
end Ev

set_option Elab.async false
set_option linter.all false
set_option maxRecDepth 100000
/-! k88: words, figures -/
namespace Ev.K88
open PySem L2 Ev PyProof.Rows
def small : Str := Str.ofString "abcdefghijklmnopqrstuvwxyz"
def figs : Str := Str.ofString "0123456789"
def inS (z : Str) (c : Nat) : Bool := decide (c ∈ z.cps.toList)
/-! values: words, whole numbers, nothing, tuples of such -/
mutual
def wv : PV → Bool
  | .tup l => wvs l
  | .str s => PyData.strOk s && decide (s.length ≤ 500)
  | .int i => decide (i.natAbs.log2 < 1900 ∧ (Str.ofString (toString i)).length ≤ 500)
  | .non => true
  | .bl _ => false | .lst _ => false | .dct _ _ => false | .err _ _ _ => false | .ref _ => false
def wvs : List PV → Bool
  | [] => true
  | v :: r => wv v && wvs r
end
mutual
theorem wv_ok : ∀ v : PV, wv v = true → okV v = true
  | .non, _ => by simp [okV]
  | .int i, _ => by simp [okV]
  | .str s, h => by
    have h2 : PyData.strOk s = true ∧ s.length ≤ 500 := by simpa [wv] using h
    simpa [okV] using h2.1
  | .tup l, h => by simpa [okV] using wvs_ok l (by simpa [wv] using h)
  | .bl _, h => by simp [wv] at h
  | .lst _, h => by simp [wv] at h
  | .dct _ _, h => by simp [wv] at h
  | .err _ _ _, h => by simp [wv] at h
  | .ref _, h => by simp [wv] at h
theorem wvs_ok : ∀ l : List PV, wvs l = true → okVs l = true
  | [], _ => by simp [okVs]
  | v :: r, h => by
    have h2 : wv v = true ∧ wvs r = true := by simpa [wvs] using h
    simp [okVs, wv_ok v h2.1, wvs_ok r h2.2]
end
theorem wvs_mem {l : List PV} : wvs l = true ↔ ∀ v ∈ l, wv v = true := by
  induction l with
  | nil => simp [wvs]
  | cons a r ih => simp [wvs, ih]
theorem wv_noRef {v : PV} (h : wv v = true) : noRef v = true := okV_noRef (wv_ok v h)
theorem wv_str {s : Str} : wv (.str s) = true ↔ SOk s := by simp [wv, SOk]
def wordB : PV → Bool
  | .str s => (s != Str.ofString "") && s.cps.toList.all (inS small)
  | _ => false
def figB : PV → Bool
  | .int i => decide (i.natAbs < 1000000000000)
  | _ => false
theorem inV2_sign {S : Sto} (c : Nat) (z : Str) : inV2 S (.str ⟨#[c]⟩) (.str z) = some (inS z c) := rfl
theorem allBls_map {f : Nat → Bool} : ∀ l : List Nat, allBls (l.map fun c => PV.bl (f c)) = some (l.map f)
  | [] => rfl
  | c :: r => by simp [allBls, allBls_map r]
/-- all([sign in z for sign in s]) -/
theorem all_signs {C : Ctx} {k j i : Nat} {σ : Sl} {S : Sto} {s z : Str} (hz : C.gls[k]? = some (.str z)) (hs : σ[i]? = some (some (.str s))) (hj : j < σ.length) (hl : s.length ≤ 500) :
    R.E C (.bi .all (.lc false [j] (.one j) (.seq (.var i)) .none (.cmp .isin (.var j) (.gl k)))) σ S (.bl (s.cps.toList.all (inS z))) S := by
  have h := lc_all (ok := fun S' => stays S' (s.cps.toList.map fun c => PV.str ⟨#[c]⟩, none)) (elt := fun σ' S' => evE C (.cmp .isin (.var j) (.gl k)) σ' S') (test := fun σ' S' => evIf C .none σ' S') (tg := .one j) (σ := wipeP σ [j]) (S := S)
    (f := fun v => match v with | .str y => PV.bl (inS z (y.cps.toList.headD 0)) | _ => .non) rfl (s.cps.toList.map fun c => PV.str ⟨#[c]⟩) [] (fun x hx => by
      obtain ⟨c, hc, rfl⟩ := List.mem_map.mp hx
      exact ⟨_, rfl, by simp only [evIf], R.cmp (R.var (List.getElem?_set_self (by simpa [wipeP] using hj))) (R.gl hz) (inV2_sign (S := S) c z)⟩) (by simp only [List.length_nil, List.length_map, len_list]; omega)
  have e : ([] : List PV).reverse ++ (s.cps.toList.map fun c => PV.str ⟨#[c]⟩).map (fun v => match v with | .str y => PV.bl (inS z (y.cps.toList.headD 0)) | _ => .non) = s.cps.toList.map fun c => PV.bl (inS z c) := by
    rw [List.reverse_nil, List.nil_append, List.map_map]
    exact List.map_congr_left fun c _ => rfl
  rw [e] at h
  refine R.bi (R.lc (R.seq (R.var hs) rfl) h rfl) ?_
  show ((some (s.cps.toList.map fun c => PV.bl (inS z c))).bind allBls).map (fun l => PV.bl (l.all id)) = _
  rw [Option.bind_some, allBls_map]
  show some (PV.bl _) = _
  rw [List.all_map] <;> rfl
theorem empty_ok : PyData.strOk (Str.ofString "") = true := by decide +kernel
theorem is_word_ok {n : Nat} {v : PV} (h : wv v = true) : Cl (n + 1) 0 [v] (.bl (wordB v)) := by
  have go : ∀ {b : Bool}, R.E (cx n) (.band (.isi (.var 0) .str) (.band (.cmp .ne (.var 0) (.cst (.str (Str.ofString "")))) (.bi .all (.lc false [1] (.one 1) (.seq (.var 0)) .none (.cmp .isin (.var 1) (.gl 3)))))) [some v, none] [] (.bl b) [] → Cl (n + 1) 0 [v] (.bl b) := fun {b} h2 =>
    cl_of (d := ⟨1, 2, true, b_is_word⟩) rfl rfl (by simpa [noRefs] using wv_noRef h) (R.run rfl (R.ssR (R.ret h2))) rfl
  cases v with
  | str s =>
    have hs := wv_str.mp h
    exact go (R.band (p := true) (q := wordB (.str s)) (R.isi (R.var rfl) rfl rfl) fun _ => R.band (R.cmp (R.var rfl) R.cst (by show (eqV2 _ _ _).map (!·) = _; rw [eqV2_str hs.1 empty_ok]; rfl)) fun _ => all_signs rfl rfl (Nat.lt.base 1) hs.2)
  | non => exact go (R.bandF (R.isi (R.var rfl) rfl rfl))
  | int i => exact go (R.bandF (R.isi (R.var rfl) rfl rfl))
  | tup i => exact go (R.bandF (R.isi (R.var rfl) rfl rfl))
  | _ => simp [wv] at h
theorem is_figure_ok {n : Nat} {v : PV} (h : wv v = true) : Cl (n + 1) 1 [v] (.bl (figB v)) := by
  have go : ∀ {b : Bool}, R.E (cx n) (.band (.isi (.var 0) .int) (.band (.not (.isi (.var 0) .bool)) (.cmp .lt (.bi .abs (.var 0)) (.gl 2)))) [some v] [] (.bl b) [] → Cl (n + 1) 1 [v] (.bl b) := fun {b} h2 =>
    cl_of (d := ⟨1, 1, true, b_is_figure⟩) rfl rfl (by simpa [noRefs] using wv_noRef h) (R.run rfl (R.ssR (R.ret h2))) rfl
  cases v with
  | int i =>
    refine go (R.bandT (R.isi (R.var rfl) rfl rfl) (R.bandT (R.not (b := false) (R.isi (R.var rfl) rfl rfl)) (R.cmp (R.bi (R.var rfl) rfl) (R.gl rfl) ?_)))
    show some (decide ((if i < 0 then -i else i) < 1000000000000)) = some (decide (i.natAbs < 1000000000000))
    congr 1
    rw [decide_eq_decide]
    split <;> omega
  | non => exact go (R.bandF (R.isi (R.var rfl) rfl rfl))
  | str i => exact go (R.bandF (R.isi (R.var rfl) rfl rfl))
  | tup i => exact go (R.bandF (R.isi (R.var rfl) rfl rfl))
  | _ => simp [wv] at h
end Ev.K88

set_option Elab.async false
set_option linter.all false
set_option maxRecDepth 100000
/-! k88: is_value -/
namespace Ev.K88
open PySem L2 Ev PyProof.Rows
mutual
def nd : PV → Nat
  | .tup l => nds l + 1
  | .lst l => nds l + 1
  | .non => 1 | .bl _ => 1 | .int _ => 1 | .str _ => 1 | .dct _ _ => 1 | .err _ _ _ => 1 | .ref _ => 1
def nds : List PV → Nat
  | [] => 0
  | v :: r => nd v + nds r
end
theorem nds_append : ∀ a b : List PV, nds (a ++ b) = nds a + nds b
  | [], b => by simp [nds]
  | v :: r, b => by simp [nds, nds_append r b]; omega
theorem nd_pos : ∀ v : PV, 1 ≤ nd v
  | .tup l => by simp [nd]
  | .lst l => by simp [nd]
  | .non => by simp [nd] | .bl _ => by simp [nd] | .int _ => by simp [nd] | .str _ => by simp [nd] | .dct _ _ => by simp [nd] | .err _ _ _ => by simp [nd] | .ref _ => by simp [nd]
theorem len_nds : ∀ l : List PV, l.length ≤ nds l
  | [] => by simp [nds]
  | v :: r => by
    have := nd_pos v
    have := len_nds r
    simp only [nds, List.length_cons]
    omega
def kids (k : Nat) : PV → List PV
  | .tup l => if 1 ≤ k then l else []
  | _ => []
def badV (k : Nat) : PV → Bool
  | .tup _ => decide (k = 0)
  | x => !isNonP x && (!wordB x && !figB x)
def isV : Nat → List PV → Bool
  | 0, _ => false
  | k + 1, l => if l.any (badV k) then false else if (l.flatMap (kids k)).isEmpty then true else isV k (l.flatMap (kids k))
theorem nds_kids (k : Nat) : ∀ l : List PV, nds (l.flatMap (kids k)) ≤ nds l
  | [] => by simp [nds]
  | v :: r => by
    have ih := nds_kids k r
    rw [List.flatMap_cons, nds_append]
    have h : nds (kids k v) ≤ nd v := by
      cases v with
      | tup l =>
        simp only [kids, nd]
        split
        · omega
        · simp [nds]
      | _ => simp [kids, nds]
    simp only [nds]
    omega
theorem wvs_kids (k : Nat) {l : List PV} (h : wvs l = true) : wvs (l.flatMap (kids k)) = true := by
  rw [wvs_mem] at h ⊢
  intro x hx
  obtain ⟨v, hv, hx⟩ := List.mem_flatMap.mp hx
  have h2 := h v hv
  cases v with
  | tup r =>
    simp only [kids] at hx
    split at hx
    · exact wvs_mem.mp (by simpa [wv] using h2) x hx
    · cases hx
  | _ => simp [kids] at hx
abbrev sl5 (v L : PV) (d : Nat) (r : Nat) (x : Option PV) : Sl := [some v, some L, some (.int (0 + (d : Int))), some (.ref r), x]
def bIn : ISs := (.cons (.ifs (.band (.isi (.var 4) .tup) (.cmp .lt (.var 2) (.bin .sub (.gl 0) (.cst (.int 1))))) (.cons (.expr (.meth .extend (.var 3) (.cons (.var 4) .nil)))
    .nil) (.cons (.ifs (.band (.cmp .notN (.var 4) (.cst .non)) (.band (.not (.call 0 (.cons (.var 4) .nil))) (.not (.call 1 (.cons (.var 4) .nil))))) (.cons (.ret (.cst (.bl false)))
    .nil) .nil)
    .nil))
    .nil)
theorem get_last {α : Type} (S0 : List α) (o : α) : (S0 ++ [o])[S0.length]? = some o := by simp
theorem set_last {α : Type} (S0 : List α) (o u : α) : (S0 ++ [o]).set S0.length u = S0 ++ [u] := by simp
theorem bin_step {n : Nat} {S0 : Sto} {v L x : PV} {d k : Nat} {acc : List PV} (hw : wv x = true) (hd : d + k = 59) (hN : acc.length + nd x ≤ 16000000) :
    (badV k x = false ∧ R.Ss (cx (n + 1)) bIn (sl5 v L d S0.length (some x)) (S0 ++ [.lst acc]) (.nx (sl5 v L d S0.length (some x))) (S0 ++ [.lst (acc ++ kids k x)])) ∨
    (badV k x = true ∧ R.Ss (cx (n + 1)) bIn (sl5 v L d S0.length (some x)) (S0 ++ [.lst acc]) (.rt (.bl false)) (S0 ++ [.lst acc])) := by
  have leaf : ∀ {S : Sto}, R.E (cx (n + 1)) (.band (.cmp .notN (.var 4) (.cst .non)) (.band (.not (.call 0 (.cons (.var 4) .nil))) (.not (.call 1 (.cons (.var 4) .nil))))) (sl5 v L d S0.length (some x)) S (.bl (!isNonP x && (!wordB x && !figB x))) S := fun {S} =>
    R.band (R.cmp (R.var rfl) R.cst rfl) fun _ => R.band (R.not (R.call (R.cons (R.var rfl) R.nil) (is_word_ok hw S))) fun _ => R.not (R.call (R.cons (R.var rfl) R.nil) (is_figure_ok hw S))
  have no : ∀ {b : Bool}, R.E (cx (n + 1)) (.band (.isi (.var 4) .tup) (.cmp .lt (.var 2) (.bin .sub (.gl 0) (.cst (.int 1))))) (sl5 v L d S0.length (some x)) (S0 ++ [.lst acc]) (.bl false) (S0 ++ [.lst acc]) → (!isNonP x && (!wordB x && !figB x)) = badV k x → kids k x = [] →
    (badV k x = false ∧ R.Ss (cx (n + 1)) bIn (sl5 v L d S0.length (some x)) (S0 ++ [.lst acc]) (.nx (sl5 v L d S0.length (some x))) (S0 ++ [.lst (acc ++ kids k x)])) ∨
    (badV k x = true ∧ R.Ss (cx (n + 1)) bIn (sl5 v L d S0.length (some x)) (S0 ++ [.lst acc]) (.rt (.bl false)) (S0 ++ [.lst acc])) := fun {b} h e ek => by
    have leaf' := leaf (S := S0 ++ [.lst acc])
    rw [e] at leaf'
    cases hb : badV k x with
    | false =>
      rw [hb] at leaf'
      refine .inl ⟨rfl, ?_⟩
      rw [ek, List.append_nil]
      exact R.ssC (R.ifs h (fun z => nomatch z) fun _ => R.ssC (R.ifs leaf' (fun z => nomatch z) fun _ => R.ssN) R.ssN) R.ssN
    | true =>
      rw [hb] at leaf'
      exact .inr ⟨rfl, R.ssR (R.ifs h (fun z => nomatch z) fun _ => R.ssR (R.ifs leaf' (fun _ => R.ssR (R.ret R.cst)) (fun z => nomatch z)))⟩
  cases x with
  | tup r =>
    have cond : R.E (cx (n + 1)) (.band (.isi (.var 4) .tup) (.cmp .lt (.var 2) (.bin .sub (.gl 0) (.cst (.int 1))))) (sl5 v L d S0.length (some (.tup r))) (S0 ++ [.lst acc]) (.bl (decide ((0 + (d : Int)) < 60 - 1))) (S0 ++ [.lst acc]) :=
      R.bandT (R.isi (R.var rfl) rfl rfl) (R.cmp (R.var rfl) (R.bin (R.gl rfl) R.cst rfl) rfl)
    by_cases hk : 1 ≤ k
    · have e : decide ((0 + (d : Int)) < 60 - 1) = true := decide_eq_true (by omega)
      rw [e] at cond
      refine .inl ⟨by simp [badV]; omega, ?_⟩
      have ek : kids k (.tup r) = r := by simp [kids, hk]
      rw [ek]
      have h1 := len_nds r
      simp only [nd] at hN
      have h := R.extendT (C := cx (n + 1)) (o := .var 3) (e := .var 4) (σ := sl5 v L d S0.length (some (.tup r))) (S := S0 ++ [.lst acc]) (R.var rfl) (get_last S0 _) (R.var rfl) (get_last S0 _) (l := acc) (r := r) (by omega)
      rw [set_last] at h
      exact R.ssC (R.ifs cond (fun _ => R.ssC (R.expr h) R.ssN) (fun z => nomatch z)) R.ssN
    · have e : decide ((0 + (d : Int)) < 60 - 1) = false := decide_eq_false (by omega)
      rw [e] at cond
      exact no (b := true) cond (by simp [badV, isNonP, wordB, figB]; omega) (by simp [kids, hk])
  | non => exact no (b := true) (R.bandF (R.isi (R.var rfl) rfl rfl)) rfl rfl
  | int i => exact no (b := true) (R.bandF (R.isi (R.var rfl) rfl rfl)) rfl rfl
  | str s => exact no (b := true) (R.bandF (R.isi (R.var rfl) rfl rfl)) rfl rfl
  | _ => simp [wv] at hw
def Lay (S : Sto) (L : PV) (l : List PV) : Prop := L = .lst l ∨ ∃ j, L = .ref j ∧ S[j]? = some (.lst l)
theorem Lay.push {S : Sto} {L : PV} {l : List PV} (h : Lay S L l) (o : SO) : Lay (S ++ [o]) L l := by
  rcases h with h | ⟨j, h1, h2⟩
  · exact .inl h
  · refine .inr ⟨j, h1, ?_⟩
    rw [List.getElem?_append_left (List.getElem?_eq_some_iff.mp h2).1, h2]
theorem Lay.src {S : Sto} {L : PV} {l : List PV} (h : Lay S L l) : srcOf S L = some l := by
  rcases h with h | ⟨j, h1, h2⟩
  · subst h; rfl
  · subst h1
    show (match S[j]? with
      | some (.lst l) => some l
      | _ => none) = some l
    rw [h2]
theorem Lay.stays {S : Sto} {L : PV} {l : List PV} (h : Lay S L l) : stays S (l, R.refOf L) = true := by
  rcases h with h | ⟨j, h1, h2⟩
  · subst h; rfl
  · subst h1
    show (match S[j]? with
      | some (.lst l2) => bqs l2 l
      | _ => false) = true
    rw [h2]
    exact bqs_self l
theorem layer_loop {n : Nat} {S0 : Sto} {v L : PV} {d k : Nat} {l : List PV} {x0 : Option PV} (hL : Lay S0 L l) (hw : wvs l = true) (hd : d + k = 59) (hN : nds l ≤ 16000000) :
    (l.any (badV k) = false ∧ ∃ x1, R.St (cx (n + 1)) (.for (.one 4) (.seq (.var 1)) bIn) (sl5 v L d S0.length x0) (S0 ++ [.lst []]) (.nx (sl5 v L d S0.length x1)) (S0 ++ [.lst (l.flatMap (kids k))])) ∨
    (l.any (badV k) = true ∧ ∃ S', R.St (cx (n + 1)) (.for (.one 4) (.seq (.var 1)) bIn) (sl5 v L d S0.length x0) (S0 ++ [.lst []]) (.rt (.bl false)) S') := by
  have q := R.forI (ok := fun S' => stays S' (l, R.refOf L)) (body := fun σ' S' => evSs (cx (n + 1)) bIn σ' S') (tg := .one 4)
    (fun r σ S => ∃ acc x, σ = sl5 v L d S0.length x ∧ S = S0 ++ [.lst acc] ∧ acc ++ r.flatMap (kids k) = l.flatMap (kids k) ∧ r.any (badV k) = l.any (badV k) ∧ wvs r = true ∧ acc.length + nds r ≤ 16000000)
    (fun u _ => u = .bl false ∧ l.any (badV k) = true)
    (fun r σ S ⟨acc, x, _, e, _⟩ => by rw [e]; exact (hL.push _).stays)
    (fun x r σ S ⟨acc, y, e1, e2, e3, e4, e5, e6⟩ => by
      subst e1 e2
      have h2 : wv x = true ∧ wvs r = true := by simpa [wvs] using e5
      simp only [nds] at e6
      refine ⟨_, rfl, ?_⟩
      rcases bin_step (n := n) (S0 := S0) (v := v) (L := L) (d := d) (k := k) (acc := acc) h2.1 hd (by omega) with ⟨b1, b2⟩ | ⟨b1, b2⟩
      · refine .inl ⟨_, _, .inl b2, acc ++ kids k x, some x, rfl, rfl, ?_, ?_, h2.2, ?_⟩
        · rw [← e3, List.flatMap_cons, List.append_assoc]
        · rw [← e4, List.any_cons, b1, Bool.false_or]
        · rw [List.length_append]
          have : (kids k x).length ≤ nd x := by
            cases x with
            | tup q =>
              simp only [kids, nd]
              have := len_nds q
              split
              · omega
              · simp
            | _ => simp [kids]
          omega
      · refine .inr ⟨_, _, b2, rfl, ?_⟩
        rw [← e4, List.any_cons, b1, Bool.true_or])
    l (sl5 v L d S0.length x0) (S0 ++ [.lst []]) ⟨[], x0, rfl, rfl, rfl, rfl, hw, by simpa using hN⟩
  rcases q with ⟨σ2, S2, e, acc, x, e1, e2, e3, e4, _, _⟩ | ⟨u, S2, e, e1, e2⟩
  · subst e1 e2
    simp only [List.flatMap_nil, List.append_nil] at e3
    subst e3
    exact .inl ⟨by rw [← e4]; rfl, x, R.for_ (R.seq (R.var rfl) (hL.push _).src) e⟩
  · subst e1
    exact .inr ⟨e2, S2, R.for_ (R.seq (R.var rfl) (hL.push _).src) e⟩
def bOut : ISs := (.cons (.asg 3 (.lst true .nil))
    (.cons (.for (.one 4) (.seq (.var 1)) bIn)
    (.cons (.ifs (.cmp .eq (.var 3) (.lst false .nil)) (.cons (.ret (.cst (.bl true)))
    .nil) .nil)
    (.cons (.asg 1 (.var 3))
    .nil))))
theorem noRefs_wvs {l : List PV} (h : wvs l = true) : noRefs l = true := (okVs_pd l (wvs_ok l h)).elim fun _ q => q.2.2.2
theorem is_value_ok {n : Nat} {v : PV} (h : wv v = true) (hN : nd v ≤ 16000000) : Cl (n + 2) 2 [v] (.bl (isV 60 [v])) := by
  have q := R.forI (ok := fun S' => stays S' (rngItems 0 60, none)) (body := fun σ' S' => evSs (cx (n + 1)) bOut σ' S') (tg := .one 2)
    (fun r σ S => ∃ L l d k x y z, d + k = 60 ∧ r = (List.range' d k).map (fun (i : Nat) => PV.int (0 + (i : Int))) ∧ σ = [some v, some L, x, y, z] ∧ Lay S L l ∧ wvs l = true ∧ nds l ≤ 16000000 ∧ isV 60 [v] = isV k l)
    (fun u _ => u = .bl (isV 60 [v])) (fun _ _ _ _ => rfl)
    (fun a r σ S ⟨L, l, d, k, x, y, z, hd, hr, e1, hL, hw, hn, hv⟩ => by
      cases k with
      | zero => simp at hr
      | succ k =>
        rw [List.range'_succ, List.map_cons] at hr
        injection hr with ha hr
        subst e1 ha
        refine ⟨_, rfl, ?_⟩
        have s1 : R.St (cx (n + 1)) (.asg 3 (.lst true .nil)) [some v, some L, some (.int (0 + (d : Int))), y, z] S (.nx (sl5 v L d S.length z)) (S ++ [.lst []]) := R.asg (R.lstT R.nil)
        rcases layer_loop (n := n) (v := v) (x0 := z) (d := d) (k := k) hL hw (by omega) hn with ⟨b1, x1, b2⟩ | ⟨b1, S', b2⟩
        · have hfl : okVs (l.flatMap (kids k)) = true := wvs_ok _ (wvs_kids k hw)
          have hz : R.E (cx (n + 1)) (.cmp .eq (.var 3) (.lst false .nil)) (sl5 v L d S.length x1) (S ++ [.lst (l.flatMap (kids k))]) (.bl (l.flatMap (kids k)).isEmpty) (S ++ [.lst (l.flatMap (kids k))]) := by
            refine R.cmp (R.var rfl) (R.lstF R.nil) ?_
            show eqV2 _ _ _ = _
            rw [eqV2_fr (frz_ref (get_last _ _) (noRefs_wvs (wvs_kids k hw))) (frzV_self rfl) (by simpa [okV] using hfl) rfl (by simp [dp, dps])]
            cases (l.flatMap (kids k)) <;> rfl
          cases hm : (l.flatMap (kids k)).isEmpty with
          | true =>
            rw [hm] at hz
            refine .inr ⟨_, _, R.ssC s1 (R.ssC b2 (R.ssR (R.ifs hz (fun _ => R.ssR (R.ret R.cst)) (fun z => nomatch z)))), ?_⟩
            rw [hv]
            unfold isV
            rw [if_neg (by rw [b1]; decide), if_pos hm]
          | false =>
            rw [hm] at hz
            refine .inl ⟨_, _, .inl (R.ssC s1 (R.ssC b2 (R.ssC (R.ifs hz (fun z => nomatch z) fun _ => R.ssN) (R.ssC (R.asg (R.var rfl)) R.ssN)))), .ref S.length, l.flatMap (kids k), d + 1, k, _, _, _, by omega, hr, rfl, .inr ⟨_, rfl, get_last _ _⟩, wvs_kids k hw, Nat.le_trans (nds_kids k l) hn, ?_⟩
            rw [hv]
            show (if l.any (badV k) then false else if (l.flatMap (kids k)).isEmpty then true else isV k (l.flatMap (kids k))) = _
            rw [if_neg (by rw [b1]; decide), if_neg (by rw [hm]; decide)]
        · refine .inr ⟨_, _, R.ssC s1 (R.ssR b2), ?_⟩
          rw [hv]
          unfold isV
          rw [if_pos b1])
    (rngItems 0 60) [some v, some (.lst [v]), none, none, none] [] ⟨.lst [v], [v], 0, 60, none, none, none, rfl, by rw [← List.range_eq_range'] <;> rfl, rfl, .inl rfl, by simpa [wvs] using h, by simpa [nds] using hN, rfl⟩
  have fin : ∀ {o : Out} {S' : Sto}, forGo (fun S' => stays S' (rngItems 0 60, none)) (fun σ' S' => evSs (cx (n + 1)) bOut σ' S') (.one 2) (rngItems 0 60) [some v, some (.lst [v]), none, none, none] [] = .ok o S' → R.St (cx (n + 1)) (.for (.one 2) (.rng (.gl 0)) bOut) [some v, some (.lst [v]), none, none, none] [] o S' := fun e => R.for_ (R.rng (i := 60) (R.gl rfl) (by decide)) e
  have s0 : R.St (cx (n + 1)) (.asg 1 (.lst false (.cons (.var 0) .nil))) [some v, none, none, none, none] [] (.nx [some v, some (.lst [v]), none, none, none]) [] := R.asg (R.lstF (R.cons (R.var rfl) R.nil))
  rcases q with ⟨σ2, S2, e, L, l, d, k, x, y, z, hd, hr, e1, _, _, _, hv⟩ | ⟨u, S2, e, e1⟩
  · have hk : k = 0 := by
      cases k with
      | zero => rfl
      | succ k => simp [List.range'_succ] at hr
    subst hk
    have : isV 60 [v] = false := by rw [hv]; rfl
    rw [this]
    exact cl_of (d := ⟨1, 5, true, b_is_value⟩) rfl rfl (by simpa [noRefs] using wv_noRef h) (R.run rfl (R.ssC s0 (R.ssC (fin e) (R.ssR (R.ret R.cst))))) rfl
  · subst e1
    exact cl_of (d := ⟨1, 5, true, b_is_value⟩) rfl rfl (by simpa [noRefs] using wv_noRef h) (R.run rfl (R.ssC s0 (R.ssR (fin e)))) rfl
end Ev.K88

set_option Elab.async false
set_option linter.all false
set_option maxRecDepth 100000
/-! k88: value_text -/
namespace Ev.K88
open PySem L2 Ev PyProof.Rows
mutual
/-- the text of a value -/
def txt : PV → List Nat
  | .tup l => 40 :: (txts l ++ [41])
  | .non => [45]
  | .str s => s.cps.toList
  | .int i => (Str.ofString (toString i)).cps.toList
  | .bl _ => [] | .lst _ => [] | .dct _ _ => [] | .err _ _ _ => [] | .ref _ => []
def txts : List PV → List Nat
  | [] => []
  | v :: r => txt v ++ txtr r
def txtr : List PV → List Nat
  | [] => []
  | v :: r => 32 :: (txt v ++ txtr r)
end
theorem txtr_append : ∀ (a b : List PV), txtr (a ++ b) = txtr a ++ txtr b
  | [], b => by simp [txtr]
  | v :: r, b => by simp [txtr, txtr_append r b]
theorem txts_snoc {a : List PV} (x : PV) (h : a ≠ []) : txts (a ++ [x]) = txts a ++ 32 :: txt x := by
  cases a with
  | nil => exact absurd rfl h
  | cons v r => simp [txts, txtr_append, txtr]
theorem txts_join : ∀ l : List PV, txts l = TL.joinL [32] (l.map txt)
  | [] => by simp [txts, TL.joinL]
  | [v] => by simp [txts, txtr, TL.joinL]
  | v :: u :: r => by
    have ih := txts_join (u :: r)
    simp only [txts] at ih
    simp only [txts, txtr, List.map_cons, TL.joinL]
    simp only [List.map_cons] at ih
    rw [← ih]
    rfl
theorem joinL_nil : ∀ l : List (List Nat), TL.joinL [] l = l.flatten
  | [] => rfl
  | [p] => by simp [TL.joinL]
  | p :: q :: r => by
    have ih := joinL_nil (q :: r)
    simp only [TL.joinL, List.nil_append, ih, List.flatten_cons]
/-! the stack's items -/
def itx : PV → List Nat
  | .lst [.str s] => s.cps.toList
  | x => txt x
def msr : PV → Nat
  | .lst _ => 1
  | x => 4 * nd x - 1
def msrs (l : List PV) : Nat := (l.map msr).sum
def blk : PV := .lst [.str (Str.ofString " ")]
def opn : PV := .lst [.str (Str.ofString "(")]
def cls : PV := .lst [.str (Str.ofString ")")]
def stOk (x : PV) : Prop := (∃ s, x = .lst [.str s] ∧ PyData.strOk s = true) ∨ wv x = true
theorem stOk_ok {x : PV} (h : stOk x) : okV x = true := by
  rcases h with ⟨s, rfl, h⟩ | h
  · simp [okV, okVs, h]
  · exact wv_ok x h
theorem okVs_of {l : List PV} (h : ∀ x ∈ l, okV x = true) : okVs l = true := by
  induction l with
  | nil => rfl
  | cons a r ih => simp [okVs, h a (by simp), ih fun x hx => h x (List.mem_cons_of_mem _ hx)]
/-- what a tuple's items come to on the stack: at i, the items behind -/
def psh (K : Nat) : Nat → List PV → List PV
  | _, [] => []
  | i, x :: r => (if i + 1 = K then [x] else [x, blk]) ++ psh K (i + 1) r
theorem blk_itx : itx blk = [32] := by decide +kernel
theorem wv_itx {x : PV} (h : wv x = true) : itx x = txt x := by
  cases x <;> simp_all [wv, itx]
theorem psh_ne {K i : Nat} {x : PV} {r : List PV} : psh K i (x :: r) ≠ [] := by
  simp only [psh]
  split <;> simp
theorem psh_txt {K : Nat} : ∀ (i : Nat) (l : List PV), i + l.length = K → wvs l = true → (psh K i l).reverse.flatMap itx = txts l.reverse
  | i, [], _, _ => by simp [psh, txts]
  | i, x :: r, h, hw => by
    have h2 : wv x = true ∧ wvs r = true := by simpa [wvs] using hw
    have ih := psh_txt (K := K) (i + 1) r (by simp only [List.length_cons] at h; omega) h2.2
    simp only [psh, List.reverse_append, List.flatMap_append, ih]
    cases r with
    | nil =>
      simp only [List.length_cons, List.length_nil] at h
      rw [if_pos (by omega)]
      simp [txts, txtr, wv_itx h2.1, psh]
    | cons y s =>
      rw [if_neg (by simp only [List.length_cons] at h; omega), show (x :: y :: s).reverse = (y :: s).reverse ++ [x] from List.reverse_cons, txts_snoc x (by simp)]
      simp [wv_itx h2.1, blk_itx]
theorem psh_msr {K : Nat} : ∀ (i : Nat) (l : List PV), wvs l = true → msrs (psh K i l) ≤ 4 * nds l
  | _, [], _ => by simp [psh, msrs]
  | i, x :: r, hw => by
    have h2 : wv x = true ∧ wvs r = true := by simpa [wvs] using hw
    have ih := psh_msr (K := K) (i + 1) r h2.2
    have hx : msr x = 4 * nd x - 1 := by cases x <;> simp_all [wv, msr]
    have hp := nd_pos x
    simp only [psh, msrs, List.map_append, List.sum_append, nds] at ih ⊢
    split
    · simp [hx]; omega
    · have hb : msr blk = 1 := rfl
      simp [hx, hb]; omega
theorem psh_ok {K : Nat} : ∀ (i : Nat) (l : List PV), wvs l = true → ∀ x ∈ psh K i l, stOk x
  | _, [], _ => by simp [psh]
  | i, x :: r, hw => by
    have h2 : wv x = true ∧ wvs r = true := by simpa [wvs] using hw
    have ih := psh_ok (K := K) (i + 1) r h2.2
    intro y hy
    simp only [psh, List.mem_append] at hy
    rcases hy with hy | hy
    · split at hy
      · rcases List.mem_singleton.mp hy with rfl
        exact .inr h2.1
      · rcases List.mem_cons.mp hy with rfl | hy
        · exact .inr h2.1
        · rcases List.mem_singleton.mp hy with rfl
          exact .inl ⟨_, rfl, by decide +kernel⟩
    · exact ih y hy
theorem psh_len {K : Nat} : ∀ (i : Nat) (l : List PV), (psh K i l).length ≤ 2 * l.length
  | _, [] => by simp [psh]
  | i, x :: r => by
    have ih := psh_len (K := K) (i + 1) r
    simp only [psh, List.length_append, List.length_cons]
    split <;> simp <;> omega
/-! ### the walk -/
theorem cmp_eq {S : Sto} {x y : PV} : cmpV S .eq x y = eqV2 S x y := rfl
theorem cmp_ne {S : Sto} {x y : PV} : cmpV S .ne x y = (eqV2 S x y).map (!·) := rfl
abbrev st2 (f l : List PV) (J : Sto) : Sto := .lst f :: .lst l :: J
def bEn : ISs := (.cons (.expr (.meth .extend (.var 2) (.cons (.ife (.cmp .eq (.var 4) (.bin .sub (.bi .len (.var 3)) (.cst (.int 1)))) (.lst true (.cons (.var 5) .nil)) (.lst true (.cons (.var 5) (.cons (.lst false (.cons (.cst (.str (Str.ofString " "))) .nil)) .nil)))) .nil)))
    .nil)
theorem en_step {n : Nat} {v : PV} {l f acc : List PV} {J : Sto} {i : Nat} {x : PV} (hl : acc.length + 2 ≤ 16000000) :
    ∃ J', R.Ss (cx n) bEn [some v, some (.ref 0), some (.ref 1), some (.tup l), some (.int (i : Int)), some x] (st2 f acc J) (.nx [some v, some (.ref 0), some (.ref 1), some (.tup l), some (.int (i : Int)), some x]) (st2 f (acc ++ if i + 1 = l.length then [x] else [x, blk]) J') := by
  have cond : R.E (cx n) (.cmp .eq (.var 4) (.bin .sub (.bi .len (.var 3)) (.cst (.int 1)))) [some v, some (.ref 0), some (.ref 1), some (.tup l), some (.int (i : Int)), some x] (st2 f acc J) (.bl (decide (i + 1 = l.length))) (st2 f acc J) := by
    refine R.cmp (R.var rfl) (R.bin (R.bi (R.var rfl) rfl) R.cst rfl) ?_
    rw [cmp_eq, eqV2_ok rfl rfl (by simp [dp])]
    show some ((i : Int) == (l.length : Int) - 1) = _
    congr 1
    rw [Bool.eq_iff_iff, beq_iff_eq, decide_eq_true_eq]
    omega
  by_cases hi : i + 1 = l.length
  · rw [if_pos hi]
    have h := R.extendR (C := cx n) (o := .var 2) (e := .ife (.cmp .eq (.var 4) (.bin .sub (.bi .len (.var 3)) (.cst (.int 1)))) (.lst true (.cons (.var 5) .nil)) (.lst true (.cons (.var 5) (.cons (.lst false (.cons (.cst (.str (Str.ofString " "))) .nil)) .nil)))) (σ := [some v, some (.ref 0), some (.ref 1), some (.tup l), some (.int (i : Int)), some x]) (S := st2 f acc J) (l := acc) (r := [x]) (R.var rfl) rfl
      (R.ife cond (fun _ => R.lstT (R.cons (R.var rfl) R.nil)) fun z => absurd z (by simp [hi])) rfl (get_last _ _) (by simp; omega)
    exact ⟨_, R.ssC (R.expr h) R.ssN⟩
  · rw [if_neg hi]
    have h := R.extendR (C := cx n) (o := .var 2) (e := .ife (.cmp .eq (.var 4) (.bin .sub (.bi .len (.var 3)) (.cst (.int 1)))) (.lst true (.cons (.var 5) .nil)) (.lst true (.cons (.var 5) (.cons (.lst false (.cons (.cst (.str (Str.ofString " "))) .nil)) .nil)))) (σ := [some v, some (.ref 0), some (.ref 1), some (.tup l), some (.int (i : Int)), some x]) (S := st2 f acc J) (l := acc) (r := [x, blk]) (R.var rfl) rfl
      (R.ife cond (fun z => absurd z (by simp [hi])) fun _ => R.lstT (R.cons (R.var rfl) (R.cons (R.lstF (R.cons R.cst R.nil)) R.nil))) rfl (get_last _ _) (by simp; omega)
    exact ⟨_, R.ssC (R.expr h) R.ssN⟩
theorem en_loop {n : Nat} {v : PV} {l f left : List PV} {J : Sto} {x y : Option PV} (hl : left.length + 2 * l.length + 2 ≤ 16000000) :
    ∃ J' x' y', R.St (cx n) (.for (.many [4, 5]) (.enr (.var 3)) bEn) [some v, some (.ref 0), some (.ref 1), some (.tup l), x, y] (st2 f left J) (.nx [some v, some (.ref 0), some (.ref 1), some (.tup l), x', y']) (st2 f (left ++ psh l.length 0 l.reverse) J') := by
  have q := R.forI (ok := fun S' => stays S' (enum l.reverse, none)) (body := fun σ' S' => evSs (cx n) bEn σ' S') (tg := .many [4, 5])
    (fun r σ S => ∃ i m acc J x y, r = (m.zipIdx i).map (fun (p : PV × Nat) => PV.tup [.int p.2, p.1]) ∧ i + m.length = l.length ∧ σ = [some v, some (.ref 0), some (.ref 1), some (.tup l), x, y] ∧ S = st2 f acc J ∧ acc ++ psh l.length i m = left ++ psh l.length 0 l.reverse ∧ acc.length + 2 * m.length + 2 ≤ 16000000)
    (fun _ _ => False) (fun _ _ _ _ => rfl)
    (fun a r σ S ⟨i, m, acc, J, x, y, hr, hi, e1, e2, e3, e4⟩ => by
      subst e1 e2
      cases m with
      | nil => simp at hr
      | cons z m =>
        rw [List.zipIdx_cons, List.map_cons] at hr
        injection hr with ha hr
        subst ha
        simp only [List.length_cons] at e4 hi
        obtain ⟨J', h⟩ := en_step (n := n) (v := v) (l := l) (f := f) (acc := acc) (J := J) (i := i) (x := z) (by omega)
        refine ⟨_, rfl, .inl ⟨_, _, .inl h, i + 1, m, _, J', _, _, hr, by omega, rfl, rfl, ?_, ?_⟩⟩
        · rw [← e3]
          simp only [psh, List.append_assoc]
        · simp only [List.length_append]
          split <;> simp <;> omega)
    (enum l.reverse) [some v, some (.ref 0), some (.ref 1), some (.tup l), x, y] (st2 f left J) ⟨0, l.reverse, left, J, x, y, rfl, by simp, rfl, rfl, rfl, by simpa using hl⟩
  rcases q with ⟨σ2, S2, e, i, m, acc, J', x', y', hr, hi, e1, e2, e3, _⟩ | ⟨_, _, _, z⟩
  · have hm : m = [] := by
      cases m with
      | nil => rfl
      | cons z m => simp at hr
    subst hm e1 e2
    simp only [psh, List.append_nil] at e3
    rw [e3] at e
    exact ⟨J', x', y', R.for_ (R.enr (R.var rfl)) e⟩
  · exact z.elim
end Ev.K88

set_option Elab.async false
set_option linter.all false
set_option maxRecDepth 100000
/-! k88: value_text, joined -/
namespace Ev.K88
open PySem L2 Ev PyProof.Rows
theorem join0 (fs : List Str) : Txt.join (Str.ofString "") fs = sOf (fs.flatMap fun s => s.cps.toList) := by
  refine str_ext ?_
  rw [sOf_list, TL.join_eq]
  have h := TL.tl_join (Str.ofString "") fs
  have e : TL.tl (Str.ofString "") = [] := by decide +kernel
  rw [e, joinL_nil] at h
  rw [List.flatMap_def]
  exact h
theorem allStrs_map : ∀ fs : List Str, allStrs (fs.map PV.str) = some fs
  | [] => rfl
  | s :: r => by simp [allStrs, allStrs_map r]
theorem sum_len : ∀ fs : List Str, (fs.map (·.length)).sum = (fs.flatMap fun s => s.cps.toList).length
  | [] => rfl
  | s :: r => by simp [sum_len r, Str.length]
def bWh : ISs := (.cons (.asg 3 (.meth .pop (.var 2) .nil))
    (.cons (.ifs (.isi (.var 3) .lst) (.cons (.expr (.meth .append (.var 1) (.cons (.idx (.var 3) (.cst (.int 0))) .nil)))
    .nil) (.cons (.ifs (.isi (.var 3) .tup) (.cons (.expr (.meth .append (.var 2) (.cons (.lst false (.cons (.cst (.str (Str.ofString ")"))) .nil)) .nil)))
    (.cons (.for (.many [4, 5]) (.enr (.var 3)) bEn)
    (.cons (.expr (.meth .append (.var 2) (.cons (.lst false (.cons (.cst (.str (Str.ofString "("))) .nil)) .nil)))
    .nil))) (.cons (.expr (.meth .append (.var 1) (.cons (.ife (.cmp .isN (.var 3) (.cst .non)) (.cst (.str (Str.ofString "-"))) (.bi .str (.var 3))) .nil)))
    .nil))
    .nil))
    .nil))
theorem msr_pos {x : PV} : 1 ≤ msr x := by
  have := nd_pos x
  cases x <;> simp only [msr] <;> omega
theorem len_msrs : ∀ l : List PV, l.length ≤ msrs l
  | [] => by simp [msrs]
  | x :: r => by
    have ih := len_msrs r
    have h := msr_pos (x := x)
    simp only [msrs, List.map_cons, List.sum_cons, List.length_cons] at ih ⊢
    omega
theorem msrs_append (a b : List PV) : msrs (a ++ b) = msrs a + msrs b := by simp [msrs]
theorem tup_itx (l : List PV) (hw : wvs l = true) : ([cls] ++ psh l.length 0 l.reverse ++ [opn]).reverse.flatMap itx = txt (.tup l) := by
  have h := psh_txt (K := l.length) 0 l.reverse (by simp) (wvs_mem.mpr fun v hv => wvs_mem.mp hw v (List.mem_reverse.mp hv))
  rw [List.reverse_reverse] at h
  have e1 : itx opn = [40] := by decide +kernel
  have e2 : itx cls = [41] := by decide +kernel
  simp [e1, e2, h, txt]
/-- one turn's end -/
def WhE (n : Nat) (v x : PV) (fs : List Str) (left : List PV) (J : Sto) (a b c : Option PV) : Prop :=
    ∃ (fs' : List Str) (left' : List PV) (J' : Sto) (a' b' c' : Option PV), R.Ss (cx n) bWh [some v, some (.ref 0), some (.ref 1), a, b, c] (st2 (fs.map .str) (left ++ [x]) J) (.nx [some v, some (.ref 0), some (.ref 1), a', b', c']) (st2 (fs'.map .str) left' J') ∧
      fs'.flatMap (fun s => s.cps.toList) ++ left'.reverse.flatMap itx = fs.flatMap (fun s => s.cps.toList) ++ (left ++ [x]).reverse.flatMap itx ∧ (∀ y ∈ left', y ∈ left ∨ stOk y) ∧ fs'.length + msrs left' ≤ fs.length + msrs (left ++ [x]) ∧ msrs left' < msrs (left ++ [x])
/-- one turn -/
theorem wh_step {n : Nat} {v x : PV} {fs : List Str} {left : List PV} {J : Sto} {a b c : Option PV} (hx : stOk x) (hf : fs.length < 1000000) (hn : left.length + 2 * nd x + 4 ≤ 16000000) : WhE n v x fs left J a b c := by
  have s1 : R.St (cx n) (.asg 3 (.meth .pop (.var 2) .nil)) [some v, some (.ref 0), some (.ref 1), a, b, c] (st2 (fs.map .str) (left ++ [x]) J) (.nx [some v, some (.ref 0), some (.ref 1), some x, b, c]) (st2 (fs.map .str) left J) := R.asg (R.pop (C := cx n) (o := .var 2) (S1 := st2 (fs.map .str) (left ++ [x]) J) (n := 1) (l := left) (y := x) (R.var rfl) rfl)
  -- a piece found
  have piece : ∀ {e : IE} {s : Str}, R.E (cx n) e [some v, some (.ref 0), some (.ref 1), some x, b, c] (st2 (fs.map .str) left J) (.str s) (st2 (fs.map .str) left J) → R.Ss (cx n) (.cons (.expr (.meth .append (.var 1) (.cons e .nil))) .nil) [some v, some (.ref 0), some (.ref 1), some x, b, c] (st2 (fs.map .str) left J) (.nx [some v, some (.ref 0), some (.ref 1), some x, b, c]) (st2 ((fs ++ [s]).map .str) left J) := fun {e s} h => by
    have k := R.append (C := cx n) (o := .var 1) (e := e) (σ := [some v, some (.ref 0), some (.ref 1), some x, b, c]) (S := st2 (fs.map .str) left J) (n := 0) (l := fs.map .str) (R.var rfl) rfl h rfl (by simp; omega)
    rw [List.map_append]
    exact R.ssC (R.expr k) R.ssN
  have out : ∀ {s : Str}, s.cps.toList = itx x → R.Ss (cx n) bWh [some v, some (.ref 0), some (.ref 1), a, b, c] (st2 (fs.map .str) (left ++ [x]) J) (.nx [some v, some (.ref 0), some (.ref 1), some x, b, c]) (st2 ((fs ++ [s]).map .str) left J) → WhE n v x fs left J a b c := fun {s} e h =>
    ⟨fs ++ [s], left, J, some x, b, c, h, by simp [e], fun y hy => Or.inl hy, by
      have := msr_pos (x := x)
      rw [msrs_append, List.length_append]
      simp only [msrs, List.map_cons, List.map_nil, List.sum_cons, List.sum_nil, List.length_cons, List.length_nil]
      omega, by
      have := msr_pos (x := x)
      rw [msrs_append]
      simp only [msrs, List.map_cons, List.map_nil, List.sum_cons, List.sum_nil]
      omega⟩
  rcases hx with ⟨s, rfl, hs⟩ | hx
  · refine out (s := s) rfl (R.ssC s1 (R.ssC (R.ifs (p := true) (R.isi (R.var rfl) rfl rfl) (fun _ => piece (R.idx (R.var rfl) R.cst rfl)) fun z => nomatch z) R.ssN))
  · cases x with
    | tup l =>
      have hw : wvs l = true := by simpa [wv] using hx
      have hll := len_nds l
      simp only [nd] at hn
      have a1 := R.append (C := cx n) (o := .var 2) (e := .lst false (.cons (.cst (.str (Str.ofString ")"))) .nil)) (σ := [some v, some (.ref 0), some (.ref 1), some (.tup l), b, c]) (S := st2 (fs.map .str) left J) (n := 1) (l := left) (R.var rfl) rfl (R.lstF (R.cons R.cst R.nil)) rfl (by omega)
      obtain ⟨J', b', c', a2⟩ := en_loop (n := n) (v := v) (l := l) (f := fs.map .str) (left := left ++ [cls]) (J := J) (x := b) (y := c) (by simp; omega)
      have hpl := psh_len (K := l.length) 0 l.reverse
      rw [List.length_reverse] at hpl
      have a3 := R.append (C := cx n) (o := .var 2) (e := .lst false (.cons (.cst (.str (Str.ofString "("))) .nil)) (σ := [some v, some (.ref 0), some (.ref 1), some (.tup l), b', c']) (S := st2 (fs.map .str) (left ++ [cls] ++ psh l.length 0 l.reverse) J') (n := 1) (l := left ++ [cls] ++ psh l.length 0 l.reverse) (R.var rfl) rfl (R.lstF (R.cons R.cst R.nil)) rfl (by simp; omega)
      have hm := psh_msr (K := l.length) 0 l.reverse (wvs_mem.mpr fun v hv => wvs_mem.mp hw v (List.mem_reverse.mp hv))
      have hr : ∀ q : List PV, nds q.reverse = nds q := fun q => by
        induction q with
        | nil => rfl
        | cons y q ih => rw [List.reverse_cons, nds_append, ih]; simp [nds]; omega
      rw [hr] at hm
      have m1 : msr cls = 1 := rfl
      have m2 : msr opn = 1 := rfl
      have m3 : msr (.tup l) = 4 * (nds l + 1) - 1 := rfl
      have mm : msrs (left ++ [cls] ++ psh l.length 0 l.reverse ++ [opn]) = msrs left + 1 + msrs (psh l.length 0 l.reverse) + 1 := by
        rw [msrs_append, msrs_append, msrs_append]
        simp [msrs, m1, m2]
      have mx : msrs (left ++ [PV.tup l]) = msrs left + (4 * (nds l + 1) - 1) := by
        rw [msrs_append]
        simp [msrs, m3]
      refine ⟨fs, left ++ [cls] ++ psh l.length 0 l.reverse ++ [opn], J', _, _, _, R.ssC s1 (R.ssC (R.ifs (p := false) (R.isi (R.var rfl) rfl rfl) (fun z => nomatch z) fun _ => R.ssC (R.ifs (p := true) (R.isi (R.var rfl) rfl rfl) (fun _ => R.ssC (R.expr a1) (R.ssC a2 (R.ssC (R.expr a3) R.ssN))) fun z => nomatch z) R.ssN) R.ssN), ?_, ?_, ?_, ?_⟩
      · have h := tup_itx l hw
        have e : (left ++ [cls] ++ psh l.length 0 l.reverse ++ [opn]).reverse.flatMap itx = ([cls] ++ psh l.length 0 l.reverse ++ [opn]).reverse.flatMap itx ++ left.reverse.flatMap itx := by
          rw [← List.flatMap_append, ← List.reverse_append]
          simp only [List.append_assoc]
        rw [e, h]
        simp [itx]
      · intro y hy
        simp only [List.mem_append, List.mem_singleton] at hy
        rcases hy with ((hy | hy) | hy) | hy
        · exact .inl hy
        · exact .inr (.inl ⟨_, hy, by decide +kernel⟩)
        · exact .inr (psh_ok 0 l.reverse (wvs_mem.mpr fun v hv => wvs_mem.mp hw v (List.mem_reverse.mp hv)) y hy)
        · exact .inr (.inl ⟨_, hy, by decide +kernel⟩)
      · rw [mm, mx]; omega
      · rw [mm, mx]; omega
    | non => exact out (s := Str.ofString "-") (by decide +kernel) (R.ssC s1 (R.ssC (R.ifs (p := false) (R.isi (R.var rfl) rfl rfl) (fun z => nomatch z) fun _ => R.ssC (R.ifs (p := false) (R.isi (R.var rfl) rfl rfl) (fun z => nomatch z) fun _ => piece (R.ife (p := true) (R.cmp (R.var rfl) R.cst rfl) (fun _ => R.cst) fun z => nomatch z)) R.ssN) R.ssN))
    | str s => exact out (s := s) rfl (R.ssC s1 (R.ssC (R.ifs (p := false) (R.isi (R.var rfl) rfl rfl) (fun z => nomatch z) fun _ => R.ssC (R.ifs (p := false) (R.isi (R.var rfl) rfl rfl) (fun z => nomatch z) fun _ => piece (R.ife (p := false) (R.cmp (R.var rfl) R.cst rfl) (fun z => nomatch z) fun _ => R.bi (R.var rfl) rfl)) R.ssN) R.ssN))
    | int i =>
      have hi : i.natAbs.log2 < 1900 := by
        have h2 : i.natAbs.log2 < 1900 ∧ (Str.ofString (toString i)).length ≤ 500 := by simpa only [wv, decide_eq_true_eq] using hx
        exact h2.1
      have hb : biV (st2 (fs.map .str) left J) .str (.int i) = some (.str (Str.ofString (toString i))) := by
        show (if i.natAbs.log2 < 1900 then some (PV.str (toString i)) else none) = _
        rw [if_pos hi]
      exact out (s := Str.ofString (toString i)) rfl (R.ssC s1 (R.ssC (R.ifs (p := false) (R.isi (R.var rfl) rfl rfl) (fun z => nomatch z) fun _ => R.ssC (R.ifs (p := false) (R.isi (R.var rfl) rfl rfl) (fun z => nomatch z) fun _ => piece (R.ife (p := false) (R.cmp (R.var rfl) R.cst rfl) (fun z => nomatch z) fun _ => R.bi (R.var rfl) hb)) R.ssN) R.ssN))
    | _ => simp [wv] at hx
theorem asB_of {r : Rs PV} {b : Bool} {S : Sto} (h : r = .ok (.bl b) S) : asB r = .ok b S := by
  rw [h]
  rfl
theorem wh_loop {n : Nat} {v : PV} {x3 x4 x5 : Option PV} (hw : wv v = true) (hn : nd v ≤ 20000) :
    ∃ (fs : List Str) (J : Sto) (a b c : Option PV), R.St (cx n) (.whl (.cmp .ne (.var 2) (.lst false .nil)) bWh) [some v, some (.ref 0), some (.ref 1), x3, x4, x5] (st2 [] [v] []) (.nx [some v, some (.ref 0), some (.ref 1), a, b, c]) (st2 (fs.map .str) [] J) ∧ fs.flatMap (fun s => s.cps.toList) = txt v ∧ fs.length ≤ 4 * nd v := by
  have hv1 : msr v = 4 * nd v - 1 := by cases v <;> simp_all [wv, msr]
  have q := R.whlI (test := fun σ' S' => asB (evE (cx n) (.cmp .ne (.var 2) (.lst false .nil)) σ' S')) (body := fun σ' S' => evSs (cx n) bWh σ' S')
    (fun m σ S => ∃ (fs : List Str) (left : List PV) (J : Sto) (a b c : Option PV), σ = [some v, some (.ref 0), some (.ref 1), a, b, c] ∧ S = st2 (fs.map .str) left J ∧ fs.flatMap (fun s => s.cps.toList) ++ left.reverse.flatMap itx = txt v ∧ (∀ y ∈ left, stOk y) ∧ fs.length + msrs left ≤ 4 * nd v ∧ m = msrs left)
    (fun σ S => ∃ (fs : List Str) (J : Sto) (a b c : Option PV), σ = [some v, some (.ref 0), some (.ref 1), a, b, c] ∧ S = st2 (fs.map .str) [] J ∧ fs.flatMap (fun s => s.cps.toList) = txt v ∧ fs.length ≤ 4 * nd v)
    (fun m σ S ⟨fs, left, J, a, b, c, e1, e2, e3, e4, e5, e6⟩ => by
      subst e1 e2 e6
      have hok : okVs left = true := okVs_of fun y hy => stOk_ok (e4 y hy)
      have test : asB (evE (cx n) (.cmp .ne (.var 2) (.lst false .nil)) [some v, some (.ref 0), some (.ref 1), a, b, c] (st2 (fs.map .str) left J)) = .ok (!left.isEmpty) (st2 (fs.map .str) left J) := by
        refine asB_of (R.cmp (R.var rfl) (R.lstF R.nil) ?_)
        have hz : eqV2 (st2 (fs.map .str) left J) (.ref 1) (.lst []) = some left.isEmpty := by
          rw [eqV2_fr (a' := .lst left) (frz_ref (n := 1) rfl (by obtain ⟨_, _, _, _, z⟩ := okVs_pd left hok; exact z)) (frzV_self rfl) (by simpa [okV] using hok) rfl (by simp [dp, dps])]
          cases left <;> rfl
        rw [cmp_ne, hz]
        rfl
      rcases List.eq_nil_or_concat left with e | ⟨l', x, e⟩
      · subst e
        refine .inl ⟨_, test, fs, J, a, b, c, rfl, rfl, by simpa using e3, by simp [msrs] at e5; omega⟩
      · rw [List.concat_eq_append] at e
        subst e
        have hle := len_msrs (l' ++ [x])
        have mx : 1 ≤ msr x := msr_pos
        have hnx : nd x ≤ msrs (l' ++ [x]) + 1 := by
          rw [msrs_append]
          have h4 : nd x ≤ msr x + 1 := by
            rcases e4 x (by simp) with ⟨s, rfl, _⟩ | h
            · simp [nd, nds, msr]
            · have := nd_pos x
              have h5 : msr x = 4 * nd x - 1 := by cases x <;> simp_all [wv, msr]
              omega
          simp only [msrs, List.map_cons, List.map_nil, List.sum_cons, List.sum_nil]
          omega
        simp only [List.length_append, List.length_cons, List.length_nil] at hle
        obtain ⟨fs', left', J', a', b', c', h1, h2, h3, h4, h5⟩ := wh_step (n := n) (v := v) (x := x) (fs := fs) (left := l') (J := J) (a := a) (b := b) (c := c) (e4 x (by simp)) (by omega) (by omega)
        have hne : (l' ++ [x]).isEmpty = false := by cases l' <;> rfl
        rw [hne] at test
        refine .inr ⟨_, _, _, msrs left', test, .inl h1, h5, fs', left', J', a', b', c', rfl, rfl, by rw [h2]; exact e3, fun y hy => ?_, by omega, rfl⟩
        rcases h3 y hy with h | h
        · exact e4 y (by simp [h])
        · exact h)
    100000 (msrs [v]) [some v, some (.ref 0), some (.ref 1), x3, x4, x5] (st2 [] [v] []) (by simp only [msrs, List.map_cons, List.map_nil, List.sum_cons, List.sum_nil, hv1]; omega) ⟨[], [v], [], x3, x4, x5, rfl, rfl, by simp [wv_itx hw], fun y hy => by rw [List.mem_singleton.mp hy]; exact .inr hw, by simp only [msrs, List.map_cons, List.map_nil, List.sum_cons, List.sum_nil, hv1, List.length_nil]; omega, rfl⟩
  obtain ⟨σ2, S2, e, fs, J, a, b, c, e1, e2, e3, e4⟩ := q
  subst e1 e2
  exact ⟨fs, J, a, b, c, R.whl e, e3, e4⟩
theorem value_text_ok {n : Nat} {v : PV} (hw : wv v = true) (hn : nd v ≤ 20000) (hl : (txt v).length ≤ 1000000) (hv : isV 60 [v] = true) : Cl (n + 3) 3 [v] (.str (sOf (txt v))) := by
  have c1 := is_value_ok (n := n) hw (by omega)
  obtain ⟨fs, J, a, b, c, h, e, _⟩ := wh_loop (n := n + 2) (v := v) (x3 := none) (x4 := none) (x5 := none) hw hn
  have hc : R.E (cx (n + 2)) (.call 2 (.cons (.var 0) .nil)) [some v, none, none, none, none, none] [] (.bl true) [] := R.call (R.cons (R.var rfl) R.nil) (by rw [← hv]; exact c1 [])
  have s2 : R.St (cx (n + 2)) (.par [1, 2] (.cons (.lst true .nil) (.cons (.lst true (.cons (.var 0) .nil)) .nil))) [some v, none, none, none, none, none] [] (.nx [some v, some (.ref 0), some (.ref 1), none, none, none]) (st2 [] [v] []) :=
    R.par (vs := [.ref 0, .ref 1]) (R.cons (S1 := [.lst []]) (R.lstT R.nil) (R.cons (R.lstT (S1 := [.lst []]) (R.cons (R.var rfl) R.nil)) R.nil)) rfl
  have s4 : R.E (cx (n + 2)) (.meth .join (.cst (.str (Str.ofString ""))) (.cons (.var 1) .nil)) [some v, some (.ref 0), some (.ref 1), a, b, c] (st2 (fs.map .str) [] J) (.str (sOf (txt v))) (st2 (fs.map .str) [] J) := by
    refine R.meth (x := .str (Str.ofString "")) (vs := [.ref 0]) R.cst rfl (R.cons (R.var rfl) R.nil) ?_
    show (match (itemsOf (st2 (fs.map .str) [] J) (.ref 0)).bind allStrs with
      | some (ys : List Str) => if (ys.map fun (s : Str) => s.length).sum + ys.length * (Str.ofString "").length ≤ 16777216 then Rs.ok (PV.str (Txt.join (Str.ofString "") ys)) (st2 (fs.map .str) [] J) else .bad
      | none => .bad) = _
    rw [R.itemsOf_ref (n := 0) rfl, Option.bind_some, allStrs_map]
    dsimp only
    have e0 : (Str.ofString "").length = 0 := by decide +kernel
    rw [e0, if_pos (by rw [sum_len, e]; omega), join0, e]
  have s1 : R.St (cx (n + 2)) (.ifs (.not (.call 2 (.cons (.var 0) .nil))) (.cons (.raise 0 (.cons (.cst (.str (Str.ofString "no value"))) (.cons (.cst (.int 0)) .nil))) .nil) .nil) [some v, none, none, none, none, none] [] (.nx [some v, none, none, none, none, none]) [] :=
    R.ifs (p := false) (R.not (b := true) hc) (fun z => nomatch z) fun _ => R.ssN
  have body : R.Ss (cx (n + 2)) b_value_text [some v, none, none, none, none, none] [] (.rt (.str (sOf (txt v)))) (st2 (fs.map .str) [] J) := R.ssC s1 (R.ssC s2 (R.ssC h (R.ssR (R.ret s4))))
  exact cl_of (d := ⟨1, 6, true, b_value_text⟩) rfl rfl (by simpa [noRefs] using wv_noRef hw) (R.run rfl body) rfl
theorem value_text_no {n : Nat} {v : PV} (hw : wv v = true) (hn : nd v ≤ 20000) (hv : isV 60 [v] = false) : Ce (n + 3) 3 [v] := by
  have c1 := is_value_ok (n := n) hw (by omega)
  have hc : R.E (cx (n + 2)) (.call 2 (.cons (.var 0) .nil)) [some v, none, none, none, none, none] [] (.bl false) [] := R.call (R.cons (R.var rfl) R.nil) (by rw [← hv]; exact c1 [])
  exact ce_of (d := ⟨1, 6, true, b_value_text⟩) rfl rfl (by simpa [noRefs] using wv_noRef hw) (R.runX rfl (R.ssX (R.ifsX (R.not (b := false) hc) (R.ssX (R.raise (S1 := []) (R.cons R.cst (R.cons R.cst R.nil)) rfl)))))
end Ev.K88

set_option Elab.async false
set_option linter.all false
set_option maxRecDepth 100000
/-! k88: the law's own words of values -/
namespace Ev.K88
open PySem L2 Ev PyProof.Rows
theorem lc_none {ok : Sto → Bool} {elt : Sl → Sto → Rs PV} {test : Sl → Sto → Rs Bool} {tg : Tg} {σ : Sl} {S : Sto} (hok : ok S = true) : ∀ (l acc : List PV), (∀ x ∈ l, ∃ σ', setTg tg x σ = some σ' ∧ test σ' S = .ok false S) → lcGo ok elt test tg σ l S acc = .ok acc.reverse S
  | [], acc, _ => by
    unfold lcGo
    rw [if_pos hok]
  | x :: r, acc, h => by
    obtain ⟨σ', e1, e2⟩ := h x (by simp)
    unfold lcGo
    rw [hok]
    simp only [Bool.not_true, Bool.false_eq_true, if_false]
    rw [e1]
    dsimp only
    rw [e2]
    exact lc_none hok r acc fun y hy => h y (List.mem_cons_of_mem _ hy)
theorem dp_mem {x : PV} : ∀ {l : List PV}, x ∈ l → dp x ≤ dps l
  | v :: r, h => by
    rcases List.mem_cons.mp h with rfl | h
    · simp only [dps]; omega
    · have := dp_mem h
      simp only [dps]; omega
theorem nd_mem {x : PV} : ∀ {l : List PV}, x ∈ l → nd x ≤ nds l
  | v :: r, h => by
    rcases List.mem_cons.mp h with rfl | h
    · simp only [nds]; omega
    · have := nd_mem h
      simp only [nds]; omega
theorem txtr_mem {x : PV} : ∀ {l : List PV}, x ∈ l → (txt x).length ≤ (txtr l).length
  | v :: r, h => by
    rcases List.mem_cons.mp h with rfl | h
    · simp only [txtr, List.length_cons, List.length_append]; omega
    · have := txtr_mem h
      simp only [txtr, List.length_cons, List.length_append]; omega
theorem txts_mem {x : PV} : ∀ {l : List PV}, x ∈ l → (txt x).length ≤ (txts l).length
  | v :: r, h => by
    rcases List.mem_cons.mp h with rfl | h
    · simp only [txts, List.length_append]; omega
    · have := txtr_mem h
      simp only [txts, List.length_append]; omega
theorem txts_sum : ∀ l : List PV, (l.map fun x => (txt x).length).sum ≤ (txts l).length ∧ (l.map fun x => (txt x).length).sum ≤ (txtr l).length
  | [] => by simp [txts, txtr]
  | v :: r => by
    have h := (txts_sum r).2
    simp only [List.map_cons, List.sum_cons, txts, txtr, List.length_append, List.length_cons]
    omega
theorem join1 (l : List PV) : Txt.join (Str.ofString " ") (l.map fun x => sOf (txt x)) = sOf (txts l) := by
  refine str_ext ?_
  rw [sOf_list, TL.join_eq]
  have h := TL.tl_join (Str.ofString " ") (l.map fun x => sOf (txt x))
  have e : TL.tl (Str.ofString " ") = [32] := by decide +kernel
  rw [e, List.map_map] at h
  rw [txts_join]
  exact h
theorem noRefs1 {v : PV} (h : wv v = true) : noRefs [v] = true := by simpa [noRefs] using wv_noRef h
def lvA : IE := (.bin .add (.bin .add (.cst (.str (Str.ofString "("))) (.meth .join (.cst (.str (Str.ofString " "))) (.cons (.lc false [1] (.one 1) (.seq (.var 0)) .none (.call 14 (.cons (.var 1) .nil))) .nil))) (.cst (.str (Str.ofString ")"))))
theorem lvt : ∀ (n : Nat) (v : PV), dp v < n → wv v = true → nd v ≤ 20000 → (txt v).length ≤ 1000000 → Cl n 14 [v] (.str (sOf (txt v)))
  | 0, _, h, _, _, _ => absurd h (Nat.not_lt_zero _)
  | n + 1, v, hd, hw, hn, hl => by
    have leaf : ∀ {s : Str}, R.E (cx n) (.isi (.var 0) .tup) [some v, none] [] (.bl false) [] → R.E (cx n) (.ife (.cmp .isN (.var 0) (.cst .non)) (.cst (.str (Str.ofString "-"))) (.bi .str (.var 0))) [some v, none] [] (.str s) [] → Cl (n + 1) 14 [v] (.str s) := fun {s} h1 h2 =>
      cl_of (d := ⟨1, 2, true, b__law_value_text⟩) rfl rfl (noRefs1 hw) (R.run rfl (R.ssC (R.ifs h1 (fun z => nomatch z) fun _ => R.ssN) (R.ssR (R.ret h2)))) rfl
    cases v with
    | tup l =>
      have hws : wvs l = true := by simpa [wv] using hw
      simp only [dp] at hd
      simp only [nd] at hn
      simp only [txt, List.length_cons, List.length_append] at hl
      have hll := len_nds l
      have h := lc_all (ok := fun S' => stays S' (l, none)) (elt := fun σ' S' => evE (cx n) (.call 14 (.cons (.var 1) .nil)) σ' S') (test := fun σ' S' => evIf (cx n) .none σ' S') (tg := .one 1) (σ := [some (.tup l), none]) (S := [])
        (f := fun v => .str (sOf (txt v))) rfl l [] (fun x hx => by
          have hx1 := dp_mem hx
          have hx2 := nd_mem hx
          have hx3 := txts_mem hx
          exact ⟨_, rfl, by simp only [evIf], R.call (R.cons (R.var rfl) R.nil) (lvt n x (by omega) (wvs_mem.mp hws x hx) (by omega) (by omega) [])⟩) (by simp only [List.length_nil]; omega)
      rw [List.reverse_nil, List.nil_append] at h
      have hj : methV .join (.str (Str.ofString " ")) [.lst (l.map fun v => PV.str (sOf (txt v)))] [] = .ok (.str (sOf (txts l))) [] := by
        show (match ((some (l.map fun v => PV.str (sOf (txt v)))).bind allStrs) with
          | some (ys : List Str) => if (ys.map fun (s : Str) => s.length).sum + ys.length * (Str.ofString " ").length ≤ 16777216 then Rs.ok (PV.str (Txt.join (Str.ofString " ") ys)) [] else .bad
          | none => .bad) = _
        have e0 : (Str.ofString " ").length = 1 := by decide +kernel
        have e1 : (l.map fun v => PV.str (sOf (txt v))) = (l.map fun v => sOf (txt v)).map PV.str := by rw [List.map_map]; rfl
        rw [e1, Option.bind_some, allStrs_map]
        dsimp only
        have hs := (txts_sum l).1
        have e2 : ((l.map fun v => sOf (txt v)).map fun (s : Str) => s.length) = l.map fun x => (txt x).length := by
          rw [List.map_map]
          exact List.map_congr_left fun x _ => sOf_len _
        rw [e0, e2, if_pos (by simp only [List.length_map]; omega), join1]
      have e3 : R.E (cx n) lvA [some (.tup l), none] [] (.str (sOf (txt (.tup l)))) [] := by
        have p1 : Str.ofString "(" = sOf [40] := by decide +kernel
        have p2 : Str.ofString ")" = sOf [41] := by decide +kernel
        refine R.bin (x := .str (sOf (40 :: txts l))) (R.bin (x := .str (Str.ofString "(")) (y := .str (sOf (txts l))) R.cst (R.meth R.cst rfl (R.cons (R.lc (R.seq (R.var rfl) rfl) h rfl) R.nil) hj) ?_) R.cst ?_
        · show (if (Str.ofString "(").length + (sOf (txts l)).length ≤ 16000000 then some (PV.str (Str.ofString "(" ++ sOf (txts l))) else none) = _
          rw [p1, sOf_len, sOf_len, if_pos (by simp only [List.length_cons, List.length_nil]; omega), sOf_append]
          rfl
        · show (if (sOf (40 :: txts l)).length + (Str.ofString ")").length ≤ 16000000 then some (PV.str (sOf (40 :: txts l) ++ Str.ofString ")")) else none) = _
          rw [p2, sOf_len, sOf_len, if_pos (by simp only [List.length_cons, List.length_nil]; omega), sOf_append]
          simp [txt]
      exact cl_of (d := ⟨1, 2, true, b__law_value_text⟩) rfl rfl (noRefs1 hw) (R.run rfl (R.ssR (R.ifs (p := true) (R.isi (R.var rfl) rfl rfl) (fun _ => R.ssR (R.ret e3)) fun z => nomatch z))) rfl
    | non => exact leaf (s := Str.ofString "-") (R.isi (R.var rfl) rfl rfl) (R.ife (p := true) (R.cmp (R.var rfl) R.cst rfl) (fun _ => R.cst) fun z => nomatch z)
    | str s =>
      have e : sOf (txt (.str s)) = s := by simp only [txt, sOf_self]
      rw [e]
      exact leaf (R.isi (R.var rfl) rfl rfl) (R.ife (p := false) (R.cmp (R.var rfl) R.cst rfl) (fun z => nomatch z) fun _ => R.bi (R.var rfl) rfl)
    | int i =>
      have hi : i.natAbs.log2 < 1900 := by
        have h2 : i.natAbs.log2 < 1900 ∧ (Str.ofString (toString i)).length ≤ 500 := by simpa only [wv, decide_eq_true_eq] using hw
        exact h2.1
      have hb : biV [] .str (.int i) = some (.str (Str.ofString (toString i))) := by
        show (if i.natAbs.log2 < 1900 then some (PV.str (toString i)) else none) = _
        rw [if_pos hi]
      have e : sOf (txt (.int i)) = Str.ofString (toString i) := by simp only [txt, sOf_self]
      rw [e]
      exact leaf (R.isi (R.var rfl) rfl rfl) (R.ife (p := false) (R.cmp (R.var rfl) R.cst rfl) (fun z => nomatch z) fun _ => R.bi (R.var rfl) hb)
    | _ => simp [wv] at hw
theorem law_plain : ∀ (n : Nat) (v : PV), dp v < n → wv v = true → nd v ≤ 16000000 → Cl n 12 [v] (.bl true)
  | 0, _, h, _, _ => absurd h (Nat.not_lt_zero _)
  | n + 1, v, hd, hw, hn => by
    have leaf : R.E (cx n) (.isis (.var 0) [.lst, .tup]) [some v, none] [] (.bl false) [] → R.E (cx n) (.isi (.var 0) .dct) [some v, none] [] (.bl false) [] → R.E (cx n) (.bor (.cmp .isN (.var 0) (.cst .non)) (.isis (.var 0) [.int, .str])) [some v, none] [] (.bl true) [] → Cl (n + 1) 12 [v] (.bl true) := fun h1 h2 h3 =>
      cl_of (d := ⟨1, 2, true, b__law_plain⟩) rfl rfl (noRefs1 hw) (R.run rfl (R.ssC (R.ifs h1 (fun z => nomatch z) fun _ => R.ssN) (R.ssC (R.ifs h2 (fun z => nomatch z) fun _ => R.ssN) (R.ssR (R.ret h3))))) rfl
    cases v with
    | tup l =>
      have hws : wvs l = true := by simpa [wv] using hw
      simp only [dp] at hd
      simp only [nd] at hn
      have h := lc_none (ok := fun S' => stays S' (l, none)) (elt := fun σ' S' => evE (cx n) (.cst (.int 1)) σ' S') (test := fun σ' S' => evIf (cx n) (.some (.not (.call 12 (.cons (.var 1) .nil)))) σ' S') (tg := .one 1) (σ := [some (.tup l), none]) (S := [])
        rfl l [] (fun x hx => by
          have hx1 := dp_mem hx
          have hx2 := nd_mem hx
          have hc : R.E (cx n) (.not (.call 12 (.cons (.var 1) .nil))) [some (.tup l), some x] [] (.bl false) [] := R.not (b := true) (R.call (R.cons (R.var rfl) R.nil) (law_plain n x (by omega) (wvs_mem.mp hws x hx) (by omega) []))
          exact ⟨_, rfl, by simp only [evIf]; exact asB_of hc⟩)
      refine cl_of (d := ⟨1, 2, true, b__law_plain⟩) rfl rfl (noRefs1 hw) (R.run rfl (R.ssR (R.ifs (p := true) (R.isis (R.var rfl) rfl rfl) (fun _ => R.ssR (R.ret (R.cmp (x := .lst []) (y := .lst []) (R.lc (R.seq (R.var rfl) rfl) h rfl) (R.lstF R.nil) ?_))) fun z => nomatch z))) rfl
      rw [cmp_eq, eqV2_ok rfl rfl (by simp [dp, dps])]
      rfl
    | non => exact leaf (R.isis (R.var rfl) rfl rfl) (R.isi (R.var rfl) rfl rfl) (R.borT (R.cmp (R.var rfl) R.cst rfl))
    | str s => exact leaf (R.isis (R.var rfl) rfl rfl) (R.isi (R.var rfl) rfl rfl) (R.borF (R.cmp (R.var rfl) R.cst rfl) (R.isis (R.var rfl) rfl rfl))
    | int i => exact leaf (R.isis (R.var rfl) rfl rfl) (R.isi (R.var rfl) rfl rfl) (R.borF (R.cmp (R.var rfl) R.cst rfl) (R.isis (R.var rfl) rfl rfl))
    | _ => simp [wv] at hw
end Ev.K88

set_option Elab.async false
set_option linter.all false
set_option maxRecDepth 100000
/-! k88: repr; _law_is -/
namespace Ev.K88
open PySem L2 Ev PyProof.Rows
/-! ### all signs are signs -/
def SK (s : Str) : Prop := ∀ c ∈ s.cps.toList, c < 0x110000
theorem sk_iff {s : Str} : PyData.strOk s = true ↔ SK s := by
  unfold PyData.strOk SK
  rw [← Array.all_toList, List.all_eq_true]
  simp
theorem sk_append {a b : Str} (ha : SK a) (hb : SK b) : SK (a ++ b) := by
  intro c hc
  have e : (a ++ b).cps.toList = a.cps.toList ++ b.cps.toList := by
    show (Str.append a b).cps.toList = _
    simp [Str.append]
  rw [e, List.mem_append] at hc
  exact hc.elim (ha c) (hb c)
theorem char_lt (c : Char) : c.toNat < 0x110000 := by
  have h := c.valid
  rcases h with h | h
  · exact Nat.lt_trans h (by decide)
  · exact h.2
theorem sk_ofString (s : String) : SK (Str.ofString s) := by
  intro c hc
  rw [Str.ofString_eq_toList] at hc
  simp only [List.mem_map] at hc
  obtain ⟨ch, _, rfl⟩ := hc
  exact char_lt ch
theorem hex_lt {c w x : Nat} (h : x ∈ List.replicate (w - ((Nat.toDigits 16 c).map Char.toNat).length) 48 ++ (Nat.toDigits 16 c).map Char.toNat) : x < 0x110000 := by
  rcases List.mem_append.mp h with h | h
  · rw [(List.mem_replicate.mp h).2]; decide
  · obtain ⟨ch, _, rfl⟩ := List.mem_map.mp h
    exact char_lt ch
theorem reprChar_lt {q c x : Nat} (hc : c < 0x110000) (h : x ∈ PySem.Builtin.Str.reprChar q c) : x < 0x110000 := by
  unfold PySem.Builtin.Str.reprChar at h
  dsimp only at h
  split at h
  · simp only [List.mem_cons, List.not_mem_nil, or_false] at h; omega
  · split at h
    · simp only [List.mem_cons, List.not_mem_nil, or_false] at h; omega
    · split at h
      · simp only [List.mem_cons, List.not_mem_nil, or_false] at h; omega
      · split at h
        · simp only [List.mem_cons, List.not_mem_nil, or_false] at h; omega
        · split at h
          · simp only [List.mem_cons, List.not_mem_nil, or_false] at h; omega
          · split at h
            · rcases List.mem_append.mp h with h | h
              · simp only [List.mem_cons, List.not_mem_nil, or_false] at h; omega
              · exact hex_lt h
            · split at h
              · rcases List.mem_append.mp h with h | h
                · simp only [List.mem_cons, List.not_mem_nil, or_false] at h; omega
                · exact hex_lt h
              · rcases List.mem_append.mp h with h | h
                · simp only [List.mem_cons, List.not_mem_nil, or_false] at h; omega
                · exact hex_lt h
theorem fold_lt {q : Nat} : ∀ (l : List Nat) (acc : Array Nat), (∀ c ∈ l, c < 0x110000) → (∀ c ∈ acc.toList, c < 0x110000) → ∀ c ∈ (l.foldl (fun out c => out ++ (PySem.Builtin.Str.reprChar q c).toArray) acc).toList, c < 0x110000
  | [], acc, _, h => h
  | x :: r, acc, hl, h => by
    refine fold_lt r _ (fun c hc => hl c (List.mem_cons_of_mem _ hc)) fun c hc => ?_
    simp only [Array.toList_append, List.mem_append] at hc
    rcases hc with hc | hc
    · exact h c hc
    · exact reprChar_lt (hl x (by simp)) hc
theorem sk_repr {s : Str} (h : SK s) : SK (reprText s) := by
  have hq : reprQuote s < 0x110000 := by
    unfold reprQuote
    split <;> decide
  intro c hc
  unfold reprText at hc
  rw [← Array.foldl_toList] at hc
  simp only [Array.toList_push, List.mem_append, List.mem_singleton] at hc
  rcases hc with hc | rfl
  · exact fold_lt _ _ h (by simpa using hq) c hc
  · exact hq
theorem sk_join {s : Str} (hs : SK s) : ∀ l : List Str, (∀ x ∈ l, SK x) → SK (Str.join s l)
  | [], _ => fun c hc => by cases hc
  | [x], h => h x (by simp)
  | x :: y :: r, h => sk_append (sk_append (h x (by simp)) hs) (sk_join hs (y :: r) fun z hz => h z (List.mem_cons_of_mem _ hz))
theorem sk_tuple {l : List Str} (h : ∀ x ∈ l, SK x) : SK (tupleText l) := by
  unfold tupleText
  refine sk_append (sk_append (sk_ofString "(") (sk_join (sk_ofString ", ") l h)) ?_
  split <;> exact sk_ofString _
/-! ### drawn values -/
def atomI : List Int := [0, 1, -1, 7, -42, 999999999999, -999999999999]
def atomS : List Str := [Str.ofString "a", Str.ofString "on", Str.ofString "zz", Str.ofString "entry", Str.ofString "abcdefghijklm"]
mutual
def dv : PV → Bool
  | .tup l => dvs l
  | .str s => decide (s ∈ atomS)
  | .int i => decide (i ∈ atomI)
  | .non => true
  | .bl _ => false | .lst _ => false | .dct _ _ => false | .err _ _ _ => false | .ref _ => false
def dvs : List PV → Bool
  | [] => true
  | v :: r => dv v && dvs r
end
theorem atomS_ok : ∀ s ∈ atomS, PyData.strOk s = true ∧ s.length ≤ 13 := by decide +kernel
theorem atomI_ok : ∀ i ∈ atomI, i.natAbs.log2 < 1900 ∧ (Str.ofString (toString i)).length ≤ 13 := by decide +kernel
mutual
theorem dv_wv : ∀ v : PV, dv v = true → wv v = true
  | .tup l, h => by simpa [wv] using dvs_wv l (by simpa [dv] using h)
  | .str s, h => by
    have := atomS_ok s (by simpa [dv] using h)
    exact wv_str.mpr ⟨this.1, by omega⟩
  | .int i, h => by
    have := atomI_ok i (by simpa [dv] using h)
    simp only [wv, decide_eq_true_eq]
    exact ⟨this.1, by omega⟩
  | .non, _ => by simp [wv]
  | .bl _, h => by simp [dv] at h
  | .lst _, h => by simp [dv] at h
  | .dct _ _, h => by simp [dv] at h
  | .err _ _ _, h => by simp [dv] at h
  | .ref _, h => by simp [dv] at h
theorem dvs_wv : ∀ l : List PV, dvs l = true → wvs l = true
  | [], _ => by simp [wvs]
  | v :: r, h => by
    have h2 : dv v = true ∧ dvs r = true := by simpa [dvs] using h
    simp [wvs, dv_wv v h2.1, dvs_wv r h2.2]
end
/-- what repr asks -/
structure Shw (v : PV) (d : PyData) (m : Nat) : Prop where
  e : toPD v = some d
  s : d.showable = true
  h : d.hasDict = false
  k : SK d.shown
  l : d.shown.length ≤ m
mutual
theorem shw_dv : ∀ v : PV, dv v = true → ∃ d, Shw v d (32 * nd v - 2)
  | .non, _ => ⟨.none, by simp [toPD], by simp [PyData.showable], by simp [PyData.hasDict], sk_ofString "None", by decide +kernel⟩
  | .int i, h => by
    have q := atomI_ok i (by simpa [dv] using h)
    refine ⟨.int i, by simp [toPD], ?_, by simp [PyData.hasDict], ?_, ?_⟩
    · simp only [PyData.showable, decide_eq_true_eq]; omega
    · simp only [PyData.shown]; exact sk_ofString _
    · simp only [PyData.shown, nd]; exact Nat.le_trans q.2 (by decide)
  | .str s, h => by
    have q := atomS_ok s (by simpa [dv] using h)
    have hs := sk_iff.mp q.1
    refine ⟨.str s, by simp [toPD], by simp [PyData.showable], by simp [PyData.hasDict], ?_, ?_⟩
    · simp only [PyData.shown]; exact sk_repr hs
    · simp only [PyData.shown, nd]
      have hh := h
      simp only [dv, decide_eq_true_eq] at hh
      have all : ∀ s ∈ atomS, (reprText s).length ≤ 30 := by decide +kernel
      exact all s hh
  | .tup l, h => by
    obtain ⟨ds, e1, e2, e3, e4, e5⟩ := shws_dv l (by simpa [dv] using h)
    refine ⟨.tuple ds, by simp [toPD, e1], by simpa [PyData.showable] using e2, by simpa [PyData.hasDict] using e3, ?_, ?_⟩
    · simp only [PyData.shown]; exact sk_tuple e4
    · have q := tupleText_len_le (PyData.shownAll ds)
      simp only [PyData.shown, nd]
      have : (PyData.shownAll ds).length = ds.length := PyData.shownAll_length ds
      omega
  | .bl _, h => by simp [dv] at h
  | .lst _, h => by simp [dv] at h
  | .dct _ _, h => by simp [dv] at h
  | .err _ _ _, h => by simp [dv] at h
  | .ref _, h => by simp [dv] at h
theorem shws_dv : ∀ l : List PV, dvs l = true → ∃ ds, toPDs l = some ds ∧ PyData.showableAll ds = true ∧ PyData.hasDictAll ds = false ∧ (∀ x ∈ PyData.shownAll ds, SK x) ∧ ((PyData.shownAll ds).map (·.length)).sum + 2 * (PyData.shownAll ds).length ≤ 32 * nds l
  | [], _ => ⟨[], by simp [toPDs], by simp [PyData.showableAll], by simp [PyData.hasDictAll], by simp [PyData.shownAll], by simp [PyData.shownAll]⟩
  | v :: r, h => by
    have h2 : dv v = true ∧ dvs r = true := by simpa [dvs] using h
    obtain ⟨d, a⟩ := shw_dv v h2.1
    obtain ⟨ds, e1, e2, e3, e4, e5⟩ := shws_dv r h2.2
    have hp := nd_pos v
    have hl := a.l
    refine ⟨d :: ds, by simp [toPDs, a.e, e1], by simp [PyData.showableAll, a.s, e2], by simp [PyData.hasDictAll, a.h, e3], ?_, ?_⟩
    · intro x hx
      simp only [PyData.shownAll, List.mem_cons] at hx
      rcases hx with rfl | hx
      · exact a.k
      · exact e4 x hx
    · simp only [PyData.shownAll, List.map_cons, List.sum_cons, List.length_cons, nds]
      omega
end
theorem repr_of {S : Sto} {v : PV} {d : PyData} {m : Nat} (h : Shw v d m) (hm : m ≤ 16000000) (hv : okV v = true) (hd : dp v ≤ 100) : biV S .repr v = some (.str d.shown) := by
  obtain ⟨d2, a1, a2, a3, a4⟩ := okV_pd v hv
  have e := h.e
  rw [a1] at e
  cases e
  show (match (frzV S v).bind toPD with
    | some d => if d.showable = true ∧ d.hasDict = false ∧ d.depth ≤ 100 ∧ d.shown.length ≤ 16000000 then some (PV.str d.shown) else none
    | none => none) = _
  rw [frzV_self a4, Option.bind_some, a1]
  dsimp only
  rw [if_pos ⟨h.s, h.h, by rw [a3]; exact hd, Nat.le_trans h.l hm⟩]
theorem law_is {n : Nat} {v : PV} {d : PyData} {m : Nat} (h : Shw v d m) (hm : m ≤ 16000000) (hw : wv v = true) (hd : dp v ≤ 30) (hdn : dp v < n) (hn : nd v ≤ 16000000) : Cl (n + 1) 13 [v, v] (.bl true) := by
  have hv := wv_ok v hw
  have eq0 : eqV2 [] v v = some true := by
    rw [eqV2_ok hv hv (by omega), bqV_self]
  have rp := repr_of (S := []) h hm hv (by omega)
  have e1 : R.E (cx n) (.call 12 (.cons (.var 0) .nil)) [some v, some v] [] (.bl true) [] := R.call (R.cons (R.var rfl) R.nil) (law_plain n v hdn hw hn [])
  have e2 : R.E (cx n) (.cmp .eq (.var 0) (.var 1)) [some v, some v] [] (.bl true) [] := R.cmp (R.var rfl) (R.var rfl) eq0
  have e3 : R.E (cx n) (.cmp .eq (.var 1) (.var 0)) [some v, some v] [] (.bl true) [] := R.cmp (R.var rfl) (R.var rfl) eq0
  have e4 : R.E (cx n) (.cmp .eq (.bi .repr (.var 0)) (.bi .repr (.var 1))) [some v, some v] [] (.bl true) [] := by
    refine R.cmp (R.bi (R.var rfl) rp) (R.bi (R.var rfl) rp) ?_
    rw [cmp_eq, eqV2_str (sk_iff.mpr h.k) (sk_iff.mpr h.k)]
    simp
  have hb : noRefs [v, v] = true := by
    have := wv_noRef hw
    simp [noRefs, this]
  exact cl_of (d := ⟨2, 2, true, b__law_is⟩) rfl rfl hb (R.run rfl (R.ssR (R.ret (R.bandT e1 (R.bandT e2 (R.bandT e3 e4)))))) rfl
theorem shw_str {s : Str} (h : SOk s) : Shw (.str s) (.str s) 5002 := by
  have hs := sk_iff.mp h.1
  refine ⟨by simp [toPD], by simp [PyData.showable], by simp [PyData.hasDict], ?_, ?_⟩
  · simp only [PyData.shown]; exact sk_repr hs
  · simp only [PyData.shown]
    have := StrLaws.reprText_len s fun c hc => Nat.lt_trans (hs c hc) (by decide)
    have := h.2
    omega
end Ev.K88

set_option Elab.async false
set_option linter.all false
set_option maxRecDepth 100000
/-! k88: pieces_of -/
namespace Ev.K88
open PySem L2 Ev PyProof.Rows
def spS : Str := Str.ofString "() "
def sp (c : Nat) : Bool := inS spS c
def glue (c : Nat) (ps : List (List Nat)) : List (List Nat) := if sp c then [c] :: ps else match ps with
  | (d :: w) :: q => if sp d then [c] :: ps else (c :: d :: w) :: q
  | _ => [c] :: ps
/-- the pieces of a text -/
def pcs : List Nat → List (List Nat)
  | [] => []
  | c :: r => glue c (pcs r)
theorem pcs_sp {c : Nat} {r : List Nat} (h : sp c = true) : pcs (c :: r) = [c] :: pcs r := by simp [pcs, glue, h]
def hdSp : List Nat → Bool
  | [] => true
  | c :: _ => sp c
theorem pcs_hd : ∀ (l : List Nat), hdSp l = true → ∀ d w q, pcs l = (d :: w) :: q → sp d = true
  | [], _, _, _, _, e => by simp [pcs] at e
  | c :: r, h, d, w, q, e => by
    have h2 : sp c = true := h
    rw [pcs_sp h2] at e
    injection e with e1 _
    injection e1 with e1 _
    rw [← e1]
    exact h2
theorem pcs_word : ∀ (w rest : List Nat), w ≠ [] → (∀ c ∈ w, sp c = false) → hdSp rest = true → pcs (w ++ rest) = w :: pcs rest
  | [], _, h, _, _ => absurd rfl h
  | [c], rest, _, hw, hr => by
    have hc := hw c (by simp)
    show glue c (pcs rest) = _
    unfold glue
    rw [if_neg (by rw [hc]; decide)]
    split
    · rename_i d w q e
      rw [if_pos (pcs_hd rest hr d w q e)]
    · rfl
  | c :: d :: w, rest, _, hw, hr => by
    have hc := hw c (by simp)
    have hd := hw d (by simp)
    have ih := pcs_word (d :: w) rest (by simp) (fun x hx => hw x (List.mem_cons_of_mem _ hx)) hr
    show glue c (pcs ((d :: w) ++ rest)) = _
    rw [ih]
    unfold glue
    rw [if_neg (by rw [hc]; decide)]
    dsimp only
    rw [if_neg (by rw [hd]; decide)]
abbrev sl4 (s : Str) (a : Nat) (x : Option PV) : Sl := [some (.str s), some (.ref 0), some (.int (a : Int)), x]
def bEnd : ISs := (.cons (.aug 3 .add (.cst (.int 1)))
    .nil)
def cEnd : IE := (.band (.cmp .lt (.var 3) (.bi .len (.var 0))) (.cmp .notin (.idx (.var 0) (.var 3)) (.cst (.str (Str.ofString "() ")))))
theorem len_ev {n : Nat} {s : Str} {σ : Sl} {S : Sto} (h0 : σ[0]? = some (some (.str s))) (hl : s.length ≤ 500) : R.E (cx n) (.bi .len (.var 0)) σ S (.int (s.length : Int)) S := by
  refine R.bi (R.var h0) ?_
  show (if s.length ≤ 16000000 then some (PV.int (s.length : Int)) else none) = _
  rw [if_pos (by omega)]
theorem at_ev {n : Nat} {s : Str} {σ : Sl} {S : Sto} {i e c : Nat} (h0 : σ[0]? = some (some (.str s))) (hi : σ[i]? = some (some (.int (e : Int)))) (hl : s.length ≤ 500) (hc : s.cps.toList[e]? = some c) : R.E (cx n) (.cmp .notin (.idx (.var 0) (.var i)) (.cst (.str (Str.ofString "() ")))) σ S (.bl (!sp c)) S := by
  refine R.cmp (x := .str ⟨#[c]⟩) (R.idx (R.var h0) (R.var hi) ?_) R.cst ?_
  · show (if s.length ≤ 16000000 ∧ (0 : Int) ≤ (e : Int) then (s.cps[(e : Int).toNat]?).map fun c => PV.str ⟨#[c]⟩ else none) = _
    rw [if_pos ⟨by omega, by omega⟩]
    have : s.cps[(e : Int).toNat]? = some c := by
      rw [← Array.getElem?_toList]
      simpa using hc
    rw [this]
    rfl
  · show (inV2 S (.str ⟨#[c]⟩) (.str (Str.ofString "() "))).map (!·) = _
    rw [inV2_sign]
    rfl
theorem end_loop {n : Nat} {s : Str} {a : Nat} {S : Sto} (hs : s.length ≤ 500) (ha : a < s.length) (h0 : ∀ c, s.cps.toList[a]? = some c → sp c = false) :
    ∃ e : Nat, a < e ∧ e ≤ s.length ∧ (∀ c ∈ (s.cps.toList.drop a).take (e - a), sp c = false) ∧ hdSp (s.cps.toList.drop e) = true ∧ R.St (cx n) (.whl cEnd bEnd) (sl4 s a (some (.int ((a : Int) + 1)))) S (.nx (sl4 s a (some (.int (e : Int))))) S := by
  have hL := len_list s
  have q := R.whlI (test := fun σ' S' => asB (evE (cx n) cEnd σ' S')) (body := fun σ' S' => evSs (cx n) bEnd σ' S')
    (fun m σ S' => ∃ e : Nat, S' = S ∧ σ = sl4 s a (some (.int (e : Int))) ∧ a < e ∧ e ≤ s.length ∧ (∀ c ∈ (s.cps.toList.drop a).take (e - a), sp c = false) ∧ m = s.length - e)
    (fun σ S' => ∃ e : Nat, S' = S ∧ σ = sl4 s a (some (.int (e : Int))) ∧ a < e ∧ e ≤ s.length ∧ (∀ c ∈ (s.cps.toList.drop a).take (e - a), sp c = false) ∧ hdSp (s.cps.toList.drop e) = true)
    (fun m σ S' ⟨e, e1, e2, h1, h2, h3, h4⟩ => by
      subst e1 e2
      have lt : R.E (cx n) (.cmp .lt (.var 3) (.bi .len (.var 0))) (sl4 s a (some (.int (e : Int)))) S' (.bl (decide (e < s.length))) S' := by
        refine R.cmp (R.var rfl) (len_ev rfl hs) ?_
        show some (decide ((e : Int) < (s.length : Int))) = _
        congr 1
        rw [decide_eq_decide]
        omega
      by_cases hlt : e < s.length
      · have hel : e < s.cps.toList.length := by omega
        have hc : s.cps.toList[e]? = some s.cps.toList[e] := List.getElem?_eq_getElem hel
        have nin := at_ev (n := n) (S := S') (σ := sl4 s a (some (.int (e : Int)))) (i := 3) rfl rfl hs hc
        rw [decide_eq_true hlt] at lt
        cases hsp : sp s.cps.toList[e] with
        | true =>
          rw [hsp] at nin
          refine .inl ⟨S', asB_of (R.bandT lt nin), e, rfl, rfl, h1, h2, h3, ?_⟩
          rw [List.drop_eq_getElem_cons hel]
          exact hsp
        | false =>
          rw [hsp] at nin
          refine .inr ⟨S', _, S', _, asB_of (R.bandT lt nin), .inl (R.ssC (R.aug (a := (e : Int)) (b := 1) rfl R.cst) R.ssN), (show s.length - (e + 1) < m by omega), e + 1, rfl, rfl, by omega, by omega, ?_, rfl⟩
          intro c hcm
          have e4 : e + 1 - a = (e - a) + 1 := by omega
          rw [e4, List.take_add_one] at hcm
          rcases List.mem_append.mp hcm with hcm | hcm
          · exact h3 c hcm
          · rw [List.getElem?_drop, show a + (e - a) = e by omega, hc] at hcm
            have : c = s.cps.toList[e] := by simpa using hcm
            rw [this]
            exact hsp
      · rw [decide_eq_false hlt] at lt
        refine .inl ⟨S', asB_of (R.bandF lt), e, rfl, rfl, h1, h2, h3, ?_⟩
        rw [List.drop_eq_nil_of_le (by omega)]
        rfl)
    100000 (s.length - (a + 1)) (sl4 s a (some (.int ((a : Int) + 1)))) S (by omega) ⟨a + 1, rfl, rfl, by omega, by omega, by
      intro c hc
      rw [show a + 1 - a = 0 + 1 by omega, List.take_add_one] at hc
      simp only [List.take_zero, List.nil_append, List.getElem?_drop, Nat.add_zero] at hc
      cases hg : s.cps.toList[a]? with
      | none => rw [hg] at hc; simp at hc
      | some y =>
        rw [hg] at hc
        have : c = y := by simpa using hc
        rw [this]
        exact h0 y hg, rfl⟩
  obtain ⟨σ2, S2, h, e, e1, e2, h1, h2, h3, h4⟩ := q
  subst e1 e2
  exact ⟨e, h1, h2, h3, h4, R.whl h⟩
def bPc : ISs := (.cons (.asg 3 (.bin .add (.var 2) (.cst (.int 1))))
    (.cons (.ifs (.cmp .notin (.idx (.var 0) (.var 2)) (.cst (.str (Str.ofString "() ")))) (.cons (.whl cEnd bEnd)
    .nil) .nil)
    (.cons (.expr (.meth .append (.var 1) (.cons (.slc false (.var 0) (.some (.var 2)) (.some (.var 3))) .nil)))
    (.cons (.asg 2 (.var 3))
    .nil))))
theorem pc_step {n : Nat} {s : Str} {a : Nat} {f : List PV} {x : Option PV} (hs : s.length ≤ 500) (ha : a < s.length) (hf : f.length < 1000) :
    ∃ e : Nat, a < e ∧ e ≤ s.length ∧ pcs (s.cps.toList.drop a) = ((s.cps.toList.drop a).take (e - a)) :: pcs (s.cps.toList.drop e) ∧
      R.Ss (cx n) bPc (sl4 s a x) [.lst f] (.nx (sl4 s e (some (.int (e : Int))))) [.lst (f ++ [.str (sOf ((s.cps.toList.drop a).take (e - a)))])] := by
  have hL := len_list s
  have hal : a < s.cps.toList.length := by omega
  have hc : s.cps.toList[a]? = some s.cps.toList[a] := List.getElem?_eq_getElem hal
  have s1 : R.St (cx n) (.asg 3 (.bin .add (.var 2) (.cst (.int 1)))) (sl4 s a x) [.lst f] (.nx (sl4 s a (some (.int ((a : Int) + 1))))) [.lst f] := R.asg (R.bin (R.var rfl) R.cst rfl)
  have nin := at_ev (n := n) (S := [.lst f]) (σ := sl4 s a (some (.int ((a : Int) + 1)))) (i := 2) rfl rfl hs hc
  have tail : ∀ e : Nat, a < e → e ≤ s.length → R.Ss (cx n) (.cons (.expr (.meth .append (.var 1) (.cons (.slc false (.var 0) (.some (.var 2)) (.some (.var 3))) .nil))) (.cons (.asg 2 (.var 3)) .nil)) (sl4 s a (some (.int (e : Int)))) [.lst f] (.nx (sl4 s e (some (.int (e : Int))))) [.lst (f ++ [.str (sOf ((s.cps.toList.drop a).take (e - a)))])] := fun e h1 h2 => by
    have es : Txt.slice s (some (a : Int)) (some (e : Int)) = sOf ((s.cps.toList.drop a).take (e - a)) := by
      refine str_ext ?_
      rw [slice_ab (by omega) h2, sOf_list]
    have sl : R.E (cx n) (.slc false (.var 0) (.some (.var 2)) (.some (.var 3))) (sl4 s a (some (.int (e : Int)))) [.lst f] (.str (sOf ((s.cps.toList.drop a).take (e - a)))) [.lst f] := by
      refine R.slc (R.var rfl) (R.oS (R.var rfl)) (R.oS (R.var rfl)) ?_
      show (if s.length ≤ 16000000 then Rs.ok (PV.str (Txt.slice s (some (a : Int)) (some (e : Int)))) [.lst f] else .bad) = _
      rw [if_pos (by omega), es]
    have ap := R.append (C := cx n) (o := .var 1) (e := .slc false (.var 0) (.some (.var 2)) (.some (.var 3))) (σ := sl4 s a (some (.int (e : Int)))) (S := [.lst f]) (n := 0) (l := f) (R.var rfl) rfl sl rfl (by omega)
    exact R.ssC (R.expr ap) (R.ssC (R.asg (R.var rfl)) R.ssN)
  cases hsp : sp s.cps.toList[a] with
  | true =>
    rw [hsp] at nin
    refine ⟨a + 1, by omega, by omega, ?_, R.ssC s1 (R.ssC (R.ifs nin (fun z => nomatch z) fun _ => R.ssN) (tail (a + 1) (by omega) (by omega)))⟩
    rw [show a + 1 - a = 1 by omega, List.drop_eq_getElem_cons hal, pcs_sp hsp]
    rfl
  | false =>
    rw [hsp] at nin
    obtain ⟨e, h1, h2, h3, h4, h5⟩ := end_loop (n := n) (S := [.lst f]) hs ha (fun c hc2 => by
      rw [hc] at hc2
      cases hc2
      exact hsp)
    refine ⟨e, h1, h2, ?_, R.ssC s1 (R.ssC (R.ifs nin (fun _ => R.ssC h5 R.ssN) fun z => nomatch z) (tail e h1 h2))⟩
    have hw := pcs_word ((s.cps.toList.drop a).take (e - a)) (s.cps.toList.drop e) (by
      intro z
      have := congrArg List.length z
      simp only [List.length_take, List.length_drop, List.length_nil] at this
      omega) h3 h4
    rw [← hw]
    congr 1
    have hd : s.cps.toList.drop e = (s.cps.toList.drop a).drop (e - a) := by
      rw [List.drop_drop, show a + (e - a) = e by omega]
    rw [hd, List.take_append_drop]
theorem noRefs_strs : ∀ l : List Str, noRefs (l.map PV.str) = true
  | [] => rfl
  | s :: r => by simp [noRefs, noRef, noRefs_strs r]
theorem pieces_ok {n : Nat} {s : Str} (hs : s.length ≤ 500) : Cl (n + 1) 4 [.str s] (.lst ((pcs s.cps.toList).map fun p => .str (sOf p))) := by
  have hL := len_list s
  have q := R.whlI (test := fun σ' S' => asB (evE (cx n) (.cmp .lt (.var 2) (.bi .len (.var 0))) σ' S')) (body := fun σ' S' => evSs (cx n) bPc σ' S')
    (fun m σ S' => ∃ (a : Nat) (ps : List (List Nat)) (x : Option PV), S' = [.lst (ps.map fun p => .str (sOf p))] ∧ σ = sl4 s a x ∧ a ≤ s.length ∧ ps ++ pcs (s.cps.toList.drop a) = pcs s.cps.toList ∧ ps.length ≤ a ∧ m = s.length - a)
    (fun σ S' => ∃ (a : Nat) (x : Option PV), S' = [.lst ((pcs s.cps.toList).map fun p => .str (sOf p))] ∧ σ = sl4 s a x)
    (fun m σ S' ⟨a, ps, x, e1, e2, h1, h2, h3, h4⟩ => by
      subst e1 e2
      have lt : R.E (cx n) (.cmp .lt (.var 2) (.bi .len (.var 0))) (sl4 s a x) [.lst (ps.map fun p => .str (sOf p))] (.bl (decide (a < s.length))) [.lst (ps.map fun p => .str (sOf p))] := by
        refine R.cmp (R.var rfl) (len_ev rfl hs) ?_
        show some (decide ((a : Int) < (s.length : Int))) = _
        congr 1
        rw [decide_eq_decide]
        omega
      by_cases hlt : a < s.length
      · rw [decide_eq_true hlt] at lt
        obtain ⟨e, g1, g2, g3, g4⟩ := pc_step (n := n) (f := ps.map fun p => .str (sOf p)) (x := x) hs hlt (by simp; omega)
        refine .inr ⟨_, _, _, s.length - e, asB_of lt, .inl g4, by omega, e, ps ++ [(s.cps.toList.drop a).take (e - a)], _, by simp, rfl, g2, ?_, by simp; omega, rfl⟩
        rw [← h2, g3]
        simp
      · rw [decide_eq_false hlt] at lt
        have ed : s.cps.toList.drop a = [] := List.drop_eq_nil_of_le (by omega)
        rw [ed] at h2
        simp only [pcs, List.append_nil] at h2
        exact .inl ⟨_, asB_of lt, a, x, by rw [h2], rfl⟩)
    100000 s.length (sl4 s 0 none) [.lst []] (by omega) ⟨0, [], none, rfl, rfl, by omega, rfl, by simp, by omega⟩
  obtain ⟨σ2, S2, h, a, x, e1, e2⟩ := q
  subst e1 e2
  have s1 : R.St (cx n) (.par [1, 2] (.cons (.lst true .nil) (.cons (.cst (.int 0)) .nil))) [some (.str s), none, none, none] [] (.nx (sl4 s 0 none)) [.lst []] := R.par (vs := [.ref 0, .int 0]) (R.cons (R.lstT R.nil) (R.cons R.cst R.nil)) rfl
  have fz : frzV [.lst ((pcs s.cps.toList).map fun p => .str (sOf p))] (.ref 0) = some (.lst ((pcs s.cps.toList).map fun p => .str (sOf p))) := by
    have e : ((pcs s.cps.toList).map fun p => PV.str (sOf p)) = ((pcs s.cps.toList).map sOf).map PV.str := by rw [List.map_map]; rfl
    exact frz_ref rfl (by rw [e]; exact noRefs_strs _)
  exact cl_of (d := ⟨1, 4, true, b_pieces_of⟩) rfl rfl rfl (R.run rfl (R.ssC s1 (R.ssC (R.whl h) (R.ssR (R.ret (R.var rfl)))))) fz
end Ev.K88

set_option Elab.async false
set_option linter.all false
set_option maxRecDepth 100000
/-! k88: plain_of -/
namespace Ev.K88
open PySem L2 Ev PyProof.Rows NumText
theorem dig_val : ∀ (cs : List Nat) (acc : Nat), NumText.AllDigits cs → cs.foldl (fun acc c => acc * 10 + (c - 48)) acc < (acc + 1) * 10 ^ cs.length
  | [], acc, _ => by simp
  | c :: cs, acc, h => by
    have hc := h.head
    have ih := dig_val cs (acc * 10 + (c - 48)) h.tail
    simp only [List.foldl_cons, List.length_cons, Nat.pow_succ]
    have e : (acc * 10 + (c - 48) + 1) * 10 ^ cs.length ≤ (acc + 1) * (10 ^ cs.length * 10) := by
      rw [Nat.mul_comm (10 ^ cs.length) 10, ← Nat.mul_assoc]
      exact Nat.mul_le_mul_right _ (by omega)
    omega
theorem log_small {n : Nat} (h : n < 10 ^ 20) : n.log2 < 1900 := by
  by_cases hn : n = 0
  · subst hn; decide
  · have : n.log2 < 100 := (Nat.log2_lt hn).mpr (Nat.lt_trans h (by decide))
    omega
def figC (c : Nat) : Bool := inS figs c
theorem figC_ok {c : Nat} (h : figC c = true) : 48 ≤ c ∧ c ≤ 57 := by
  have e : figs.cps.toList = [48, 49, 50, 51, 52, 53, 54, 55, 56, 57] := by decide +kernel
  unfold figC inS at h
  rw [e] at h
  simp at h
  omega
theorem allDig {l : List Nat} (h : l.all figC = true) : NumText.AllDigits l := fun c hc => figC_ok (List.all_eq_true.mp h c hc)
/-- a leaf: no tuple -/
def leafV : PV → Bool
  | .tup _ => false
  | _ => true
theorem sk_sub {s : Str} {l : List Nat} (h : SK s) (hl : ∀ c ∈ l, c ∈ s.cps.toList) : SK (sOf l) := fun c hc => h c (hl c hc)
theorem plain_of_ok {n : Nat} {s : Str} (hs : SOk s) (h1 : 1 ≤ s.length) : ∃ r, Cl (n + 2) 5 [.str s] (.lst r) ∧ (r = [] ∨ ∃ a, r = [a] ∧ wv a = true ∧ leafV a = true) := by
  have hk := sk_iff.mp hs.1
  have hL := len_list s
  have hmin : PyData.strOk (Str.ofString "-") = true := by decide +kernel
  let σ0 : Sl := [some (.str s), none, none]
  have c1 : R.E (cx (n + 1)) (.cmp .eq (.var 0) (.cst (.str (Str.ofString "-")))) [some (.str s), none, none] [] (.bl (s == Str.ofString "-")) [] := R.cmp (R.var rfl) R.cst (eqV2_str (S := []) hs.1 hmin)
  have c2 : R.E (cx (n + 1)) (.call 0 (.cons (.var 0) .nil)) [some (.str s), none, none] [] (.bl (wordB (.str s))) [] := R.call (R.cons (R.var rfl) R.nil) (is_word_ok (wv_str.mpr hs) [])
  have fin : ∀ {r : List PV}, noRefs r = true → R.Ss (cx (n + 1)) b_plain_of [some (.str s), none, none] [] (.rt (.lst r)) [] → Cl (n + 2) 5 [.str s] (.lst r) := fun {r} hr h =>
    cl_of (d := ⟨1, 3, true, b_plain_of⟩) rfl rfl rfl (R.run rfl h) (frzV_self (by simpa [noRef] using hr))
  cases b1 : (s == Str.ofString "-") with
  | true =>
    rw [b1] at c1
    exact ⟨[.non], fin rfl (R.ssR (R.ifs c1 (fun _ => R.ssR (R.ret (R.lstF (R.cons R.cst R.nil)))) fun z => nomatch z)), .inr ⟨_, rfl, rfl, rfl⟩⟩
  | false =>
    rw [b1] at c1
    have t1 := R.ifs (C := cx (n + 1)) (a := .cons (.ret (.lst false (.cons (.cst .non) .nil))) .nil) (o := .nx [some (.str s), none, none]) (S2 := []) c1 (fun z => nomatch z) fun _ => R.ssN
    cases b2 : wordB (.str s) with
    | true =>
      rw [b2] at c2
      exact ⟨[.str s], fin rfl (R.ssC t1 (R.ssR (R.ifs c2 (fun _ => R.ssR (R.ret (R.lstF (R.cons (R.var rfl) R.nil)))) fun z => nomatch z))), .inr ⟨_, rfl, wv_str.mpr hs, rfl⟩⟩
    | false =>
      rw [b2] at c2
      have t2 := R.ifs (C := cx (n + 1)) (a := .cons (.ret (.lst false (.cons (.var 0) .nil))) .nil) (o := .nx [some (.str s), none, none]) (S2 := []) c2 (fun z => nomatch z) fun _ => R.ssN
      -- bare
      have hb : ∃ bare : Str, SOk bare ∧ R.E (cx (n + 1)) (.ife (.cmp .eq (.slc false (.var 0) .none (.some (.cst (.int 1)))) (.cst (.str (Str.ofString "-")))) (.slc false (.var 0) (.some (.cst (.int 1))) .none) (.var 0)) [some (.str s), none, none] [] (.str bare) [] ∧ (bare.cps.toList = s.cps.toList ∨ s.cps.toList = 45 :: bare.cps.toList) := by
        have sl1 : R.E (cx (n + 1)) (.slc false (.var 0) .none (.some (.cst (.int 1)))) [some (.str s), none, none] [] (.str (sOf (s.cps.toList.take 1))) [] := by
          refine R.slc (R.var rfl) R.oN (R.oS R.cst) ?_
          show (if s.length ≤ 16000000 then Rs.ok (PV.str (Txt.slice s none (some ((1 : Nat) : Int)))) [] else .bad) = _
          have e : Txt.slice s none (some ((1 : Nat) : Int)) = sOf (s.cps.toList.take 1) := str_ext (by rw [slice_to h1, sOf_list])
          have hs2 := hs.2
          rw [if_pos (by omega), e]
        have ok1 : PyData.strOk (sOf (s.cps.toList.take 1)) = true := sk_iff.mpr (sk_sub hk fun c hc => List.mem_of_mem_take hc)
        have cc := R.cmp (C := cx (n + 1)) (op := .eq) sl1 (R.cst (v := .str (Str.ofString "-"))) (eqV2_str (S := []) ok1 hmin)
        cases b3 : (sOf (s.cps.toList.take 1) == Str.ofString "-") with
        | true =>
          rw [b3] at cc
          have e45 : sOf (s.cps.toList.take 1) = sOf [45] := (eq_of_beq b3).trans (by decide +kernel)
          have e46 := sOf_inj e45
          refine ⟨sOf (s.cps.toList.drop 1), ⟨sk_iff.mpr (sk_sub hk fun c hc => List.mem_of_mem_drop hc), by rw [sOf_len, List.length_drop]; have := hs.2; omega⟩, R.ife cc (fun _ => ?_) (fun z => nomatch z), .inr ?_⟩
          · refine R.slc (R.var rfl) (R.oS R.cst) R.oN ?_
            show (if s.length ≤ 16000000 then Rs.ok (PV.str (Txt.slice s (some ((1 : Nat) : Int)) none)) [] else .bad) = _
            have e : Txt.slice s (some ((1 : Nat) : Int)) none = sOf (s.cps.toList.drop 1) := str_ext (by rw [slice_from, sOf_list])
            have hs2 := hs.2
            rw [if_pos (by omega), e]
          · rw [sOf_list]
            have := List.take_append_drop 1 s.cps.toList
            rw [e46] at this
            exact this.symm
        | false =>
          rw [b3] at cc
          exact ⟨s, hs, R.ife cc (fun z => nomatch z) fun _ => R.var rfl, .inl rfl⟩
      obtain ⟨bare, hbs, hbe, hbl⟩ := hb
      have t3 : R.St (cx (n + 1)) (.asg 1 (.ife (.cmp .eq (.slc false (.var 0) .none (.some (.cst (.int 1)))) (.cst (.str (Str.ofString "-")))) (.slc false (.var 0) (.some (.cst (.int 1))) .none) (.var 0))) [some (.str s), none, none] [] (.nx [some (.str s), some (.str bare), none]) [] := R.asg hbe
      have ln : R.E (cx (n + 1)) (.bi .len (.var 1)) [some (.str s), some (.str bare), none] [] (.int (bare.length : Int)) [] := by
        refine R.bi (R.var rfl) ?_
        show (if bare.length ≤ 16000000 then some (PV.int (bare.length : Int)) else none) = _
        have := hbs.2
        rw [if_pos (by omega)]
      have ch : R.E (cx (n + 1)) (.chain .le .le (.cst (.int 1)) (.bi .len (.var 1)) (.gl 1)) [some (.str s), some (.str bare), none] [] (.bl (decide ((1 : Int) ≤ (bare.length : Int)) && decide ((bare.length : Int) ≤ 12))) [] := R.chain R.cst ln rfl (R.gl rfl) rfl
      have al := all_signs (C := cx (n + 1)) (k := 4) (j := 2) (i := 1) (σ := [some (.str s), some (.str bare), none]) (S := []) (s := bare) (z := figs) rfl rfl (by simp) hbs.2
      have cnd := R.bor (R.not ch) (fun _ => R.not al)
      cases b4 : (!(decide ((1 : Int) ≤ (bare.length : Int)) && decide ((bare.length : Int) ≤ 12)) || !(bare.cps.toList.all (inS figs))) with
      | true =>
        rw [b4] at cnd
        exact ⟨[], fin rfl (R.ssC t1 (R.ssC t2 (R.ssC t3 (R.ssR (R.ifs cnd (fun _ => R.ssR (R.ret (R.lstF R.nil))) fun z => nomatch z))))), .inl rfl⟩
      | false =>
        rw [b4] at cnd
        simp only [Bool.or_eq_false_iff, Bool.not_eq_false', Bool.and_eq_true, decide_eq_true_eq] at b4
        obtain ⟨⟨g1, g2⟩, g3⟩ := b4
        have hd := allDig (l := bare.cps.toList) g3
        have hne : bare.cps.toList ≠ [] := fun z => by
          have := len_list bare
          rw [z] at this
          simp at this
          omega
        have hbl2 := len_list bare
        have hsl := hs.2
        have dv := dig_val bare.cps.toList 0 hd
        have hp : 10 ^ bare.cps.toList.length ≤ 10 ^ 13 := Nat.pow_le_pow_right (by decide) (by omega)
        obtain ⟨i, hi, hlog⟩ : ∃ i : Int, PySem.intText? s = some i ∧ i.natAbs.log2 < 1900 := by
          rcases hbl with e | e
          · rw [e] at hd hne dv hp
            refine ⟨_, intText_digits hd hne (by omega), log_small ?_⟩
            show NumText.digitsVal s.cps.toList < _
            unfold NumText.digitsVal
            omega
          · refine ⟨_, intText_neg e hd hne (by omega), log_small ?_⟩
            rw [Int.natAbs_neg]
            show NumText.digitsVal bare.cps.toList < _
            unfold NumText.digitsVal
            omega
        have ie : R.E (cx (n + 1)) (.bi .int (.var 0)) [some (.str s), some (.str bare), none] [] (.int i) [] := by
          refine R.bi (R.var rfl) ?_
          show (if s.length ≤ 600 then (PySem.intText? s).map PV.int else none) = _
          rw [if_pos (by omega), hi]
          rfl
        have se : R.E (cx (n + 1)) (.bi .str (.bi .int (.var 0))) [some (.str s), some (.str bare), none] [] (.str (Str.ofString (toString i))) [] := by
          refine R.bi ie ?_
          show (if i.natAbs.log2 < 1900 then some (PV.str (toString i)) else none) = _
          rw [if_pos hlog]
        have ce := R.cmp (C := cx (n + 1)) (op := .eq) se (R.var (i := 0) rfl) (eqV2_str (S := []) (sk_iff.mpr (sk_ofString _)) hs.1)
        have t4 := R.ifs (C := cx (n + 1)) (a := .cons (.ret (.lst false .nil)) .nil) (o := .nx [some (.str s), some (.str bare), none]) (S2 := []) cnd (fun z => nomatch z) fun _ => R.ssN
        cases b5 : (Str.ofString (toString i) == s) with
        | true =>
          rw [b5] at ce
          exact ⟨[.int i], fin rfl (R.ssC t1 (R.ssC t2 (R.ssC t3 (R.ssC t4 (R.ssR (R.ret (R.ife ce (fun _ => R.lstF (R.cons ie R.nil)) fun z => nomatch z))))))), .inr ⟨_, rfl, by
            simp only [wv, decide_eq_true_eq]
            exact ⟨hlog, by rw [eq_of_beq b5]; exact hs.2⟩, rfl⟩⟩
        | false =>
          rw [b5] at ce
          exact ⟨[], fin rfl (R.ssC t1 (R.ssC t2 (R.ssC t3 (R.ssC t4 (R.ssR (R.ret (R.ife ce (fun z => nomatch z) fun _ => R.lstF R.nil))))))), .inl rfl⟩
end Ev.K88

set_option Elab.async false
set_option linter.all false
set_option maxRecDepth 100000
/-! k88: value_of -/
namespace Ev.K88
open PySem L2 Ev PyProof.Rows
/-! ### what it computes -/
open Classical in
noncomputable def plR (p : List Nat) : List PV := if h : ∃ r, Cl 33 5 [.str (sOf p)] (.lst r) then choose h else []
theorem plR_eq {p : List Nat} {r : List PV} (h : Cl 33 5 [.str (sOf p)] (.lst r)) : plR p = r := by
  unfold plR
  have hx : ∃ r, Cl 33 5 [.str (sOf p)] (.lst r) := ⟨r, h⟩
  rw [dif_pos hx]
  have := Cl.uniq (Classical.choose_spec hx) h
  injection this
noncomputable def vo : List (List Nat) → List (List PV) → List PV → List PV
  | [], [], done => done
  | [], _ :: _, _ => []
  | p :: r, stk, done => if p = [40] then vo r ([] :: stk) done else if p = [32] then vo r stk done else if p = [41] then (match stk with
    | [] => []
    | l :: s => if s.isEmpty && !done.isEmpty then [] else match s with
      | [] => vo r [] [.tup l]
      | m :: t => vo r ((m ++ [.tup l]) :: t) done)
    else if (plR p).isEmpty || (stk.isEmpty && !done.isEmpty) then [] else match stk with
      | [] => vo r [] (plR p)
      | m :: t => vo r ((m ++ plR p) :: t) done
noncomputable def put (r : List (List Nat)) (stk : List (List PV)) (done one : List PV) : List PV := if one.isEmpty || (stk.isEmpty && !done.isEmpty) then [] else match stk with
  | [] => vo r [] one
  | m :: t => vo r ((m ++ one) :: t) done
theorem vo_open {r : List (List Nat)} {stk : List (List PV)} {done : List PV} : vo ([40] :: r) stk done = vo r ([] :: stk) done := by
  conv => lhs; unfold vo
  rw [if_pos rfl]
theorem vo_blank {r : List (List Nat)} {stk : List (List PV)} {done : List PV} : vo ([32] :: r) stk done = vo r stk done := by
  conv => lhs; unfold vo
  rw [if_neg (by decide), if_pos rfl]
theorem vo_close {r : List (List Nat)} {l : List PV} {stk : List (List PV)} {done : List PV} : vo ([41] :: r) (l :: stk) done = put r stk done [.tup l] := by
  conv => lhs; unfold vo
  rw [if_neg (by decide), if_neg (by decide), if_pos rfl]
  rfl
theorem vo_close0 {r : List (List Nat)} {done : List PV} : vo ([41] :: r) [] done = [] := by
  conv => lhs; unfold vo
  rw [if_neg (by decide), if_neg (by decide), if_pos rfl]
theorem vo_word {p : List Nat} {r : List (List Nat)} {stk : List (List PV)} {done : List PV} (h1 : p ≠ [40]) (h2 : p ≠ [32]) (h3 : p ≠ [41]) : vo (p :: r) stk done = put r stk done (plR p) := by
  conv => lhs; unfold vo
  rw [if_neg h1, if_neg h2, if_neg h3]
  rfl
/-! ### the store -/
abbrev Q := List (Nat × List PV)
structure QV (S : Sto) (q : Q) : Prop where
  top : S[0]? = some (.lst ((q.map (·.1)).reverse.map PV.ref))
  at_ : ∀ p ∈ q, S[p.1]? = some (.lst p.2)
  nd : (q.map (·.1)).Nodup
  no : 0 ∉ q.map (·.1)
  wv : ∀ p ∈ q, wvs p.2 = true
def OV (S : Sto) (q : Q) (O : PV) (one : List PV) : Prop := O = .lst one ∨ ∃ k, O = .ref k ∧ S[k]? = some (.lst one) ∧ k ∉ q.map (·.1) ∧ k ≠ 0
theorem get_push {α : Type} {S : List α} {k : Nat} {o u : α} (h : S[k]? = some o) : (S ++ [u])[k]? = some o := by
  rw [List.getElem?_append_left (List.getElem?_eq_some_iff.mp h).1, h]
theorem QV.push {S : Sto} {q : Q} (h : QV S q) (o : SO) : QV (S ++ [o]) q := ⟨get_push h.top, fun p hp => get_push (h.at_ p hp), h.nd, h.no, h.wv⟩
theorem OV.push {S : Sto} {q : Q} {O : PV} {one : List PV} (h : OV S q O one) (o : SO) : OV (S ++ [o]) q O one := by
  rcases h with h | ⟨k, h1, h2, h3⟩
  · exact .inl h
  · exact .inr ⟨k, h1, get_push h2, h3⟩
theorem frz_flat {S : Sto} {n : Nat} {v : PV} (h : noRef v = true) : frz S (n + 1) v = some v := by
  unfold frz
  rw [if_pos h]
theorem allO_flat {S : Sto} {n : Nat} : ∀ {l : List PV}, noRefs l = true → allO (frz S (n + 1)) l = some l
  | [], _ => rfl
  | v :: r, h => by
    have h2 := noRefs_cons.mp h
    unfold allO
    rw [frz_flat h2.1, allO_flat h2.2]
theorem frz_at {S : Sto} {n k : Nat} {l l' : List PV} (h : S[k]? = some (.lst l)) (e : allO (frz S n) l = some l') : frz S (n + 1) (.ref k) = some (.lst l') := by
  unfold frz
  rw [if_neg (by simp [noRef])]
  dsimp only
  rw [h]
  dsimp only
  rw [e]
  rfl
theorem frz_refs {S : Sto} {n : Nat} : ∀ {q : Q}, (∀ p ∈ q, S[p.1]? = some (.lst p.2)) → (∀ p ∈ q, wvs p.2 = true) → allO (frz S (n + 2)) ((q.map (·.1)).map PV.ref) = some ((q.map (·.2)).map PV.lst)
  | [], _, _ => rfl
  | p :: r, h, hw => by
    have ih := frz_refs (S := S) (n := n) (q := r) (fun x hx => h x (List.mem_cons_of_mem _ hx)) fun x hx => hw x (List.mem_cons_of_mem _ hx)
    simp only [List.map_cons]
    unfold allO
    rw [frz_at (h p (by simp)) (allO_flat (noRefs_wvs (hw p (by simp))))]
    rw [ih]
theorem QV.frz {S : Sto} {q : Q} (h : QV S q) : frzV S (.ref 0) = some (.lst ((q.reverse.map (·.2)).map PV.lst)) := by
  unfold frzV
  rw [if_neg (by simp [noRef])]
  have e : (q.map (·.1)).reverse.map PV.ref = ((q.reverse).map (·.1)).map PV.ref := by simp [List.map_reverse]
  exact frz_at (n := 69) h.top (by
    rw [e]
    exact frz_refs (n := 67) (fun p hp => h.at_ p (List.mem_reverse.mp hp)) fun p hp => h.wv p (List.mem_reverse.mp hp))
theorem OV.frz {S : Sto} {q : Q} {O : PV} {one : List PV} (h : OV S q O one) (hw : wvs one = true) : frzV S O = some (.lst one) := by
  rcases h with h | ⟨k, h1, h2, _⟩
  · subst h
    exact frzV_self (by simpa [noRef] using noRefs_wvs hw)
  · subst h1
    exact frz_ref h2 (noRefs_wvs hw)
theorem okVs_lsts : ∀ {l : List (List PV)}, (∀ x ∈ l, wvs x = true) → okVs (l.map PV.lst) = true
  | [], _ => rfl
  | x :: r, h => by
    simp only [List.map_cons, okVs, okV, wvs_ok x (h x (by simp)), okVs_lsts fun y hy => h y (List.mem_cons_of_mem _ hy), Bool.and_self]
section
variable {n : Nat} {σ : Sl} {S : Sto} {q : Q} {O : PV} {one : List PV} {i : Nat}
theorem bqV_nil (l : List PV) : bqV (.lst l) (.lst []) = l.isEmpty := by
  cases l <;> simp [bqV, bqs]
theorem eq_q (h : QV S q) (h2 : σ[2]? = some (some (.ref 0))) : R.E (cx n) (.cmp .eq (.var 2) (.lst true .nil)) σ S (.bl q.isEmpty) (S ++ [.lst []]) := by
  have hp := h.push (.lst [])
  refine R.cmp (R.var h2) (R.lstT R.nil) ?_
  rw [cmp_eq, eqV2_fr hp.frz (frz_ref (get_last _ _) rfl) (by
    simp only [okV]
    exact okVs_lsts fun x hx => by
      obtain ⟨p, hp2, rfl⟩ := List.mem_map.mp hx
      exact h.wv p (List.mem_reverse.mp hp2)) rfl (by simp [dp, dps]), bqV_nil]
  congr 1
  cases q with
  | nil => rfl
  | cons a b => simp
theorem eq_o (h : OV S q O one) (hw : wvs one = true) (h2 : σ[i]? = some (some O)) : R.E (cx n) (.cmp .eq (.var i) (.lst true .nil)) σ S (.bl one.isEmpty) (S ++ [.lst []]) := by
  have hp := h.push (.lst [])
  refine R.cmp (R.var h2) (R.lstT R.nil) ?_
  rw [cmp_eq, eqV2_fr (hp.frz hw) (frz_ref (get_last _ _) rfl) (by simpa [okV] using wvs_ok one hw) rfl (by simp [dp, dps]), bqV_nil]
theorem ne_o (h : OV S q O one) (hw : wvs one = true) (h2 : σ[i]? = some (some O)) : R.E (cx n) (.cmp .ne (.var i) (.lst true .nil)) σ S (.bl !one.isEmpty) (S ++ [.lst []]) := by
  have hp := h.push (.lst [])
  refine R.cmp (R.var h2) (R.lstT R.nil) ?_
  rw [cmp_ne, eqV2_fr (hp.frz hw) (frz_ref (get_last _ _) rfl) (by simpa [okV] using wvs_ok one hw) rfl (by simp [dp, dps]), bqV_nil]
  rfl
/-- return [] -/
theorem ret0 : ∃ S', R.Ss (cx n) (.cons (.ret (.lst true .nil)) .nil) σ S (.rt (.ref S.length)) (S ++ [.lst []]) ∧ frzV (S ++ [.lst []]) (.ref S.length) = some (.lst []) ∧ S' = S := ⟨S, R.ssR (R.ret (R.lstT R.nil)), frz_ref (get_last _ _) rfl, rfl⟩
end
abbrev s5 (P : PV) (x : Option PV) (D : PV) (O : Option PV) : Sl := [some P, x, some (.ref 0), some D, O]
def bPut : ISs := (.cons (.ifs (.bor (.cmp .eq (.var 4) (.lst true .nil)) (.band (.cmp .eq (.var 2) (.lst true .nil)) (.cmp .ne (.var 3) (.lst true .nil)))) (.cons (.ret (.lst true .nil))
    .nil) .nil)
    (.cons (.ifs (.cmp .eq (.var 2) (.lst true .nil)) (.cons (.asg 3 (.var 4))
    .nil) (.cons (.expr (.meth .append (.idx (.var 2) (.cst (.int (-1)))) (.cons (.idx (.var 4) (.cst (.int 0))) .nil)))
    .nil))
    .nil))
theorem setk {α : Type} {S : List α} {k : Nat} {o u : α} (h : S[k]? = some u) : (S.set k o)[k]? = some o := List.getElem?_set_self (List.getElem?_eq_some_iff.mp h).1
theorem setne {α : Type} {S : List α} {j k : Nat} {o : α} (h : k ≠ j) : (S.set k o)[j]? = S[j]? := List.getElem?_set_ne h
/-- a value put: into what is open, or done -/
theorem put_step {n : Nat} {P D O : PV} {x : Option PV} {S : Sto} {q : Q} {done one : List PV} (h : QV S q) (hD : OV S q D done) (hO : OV S q O one) (wd : wvs done = true) (wo : wvs one = true) (h1 : one.length ≤ 1) (hl : ∀ p ∈ q, p.2.length < 1000000) :
    ((one.isEmpty || (q.isEmpty && !done.isEmpty)) = true ∧ ∃ u S', R.Ss (cx n) bPut (s5 P x D (some O)) S (.rt u) S' ∧ frzV S' u = some (.lst [])) ∨
    ((one.isEmpty || (q.isEmpty && !done.isEmpty)) = false ∧ ∃ S' D' q' done', R.Ss (cx n) bPut (s5 P x D (some O)) S (.nx (s5 P x D' (some O))) S' ∧ QV S' q' ∧ OV S' q' D' done' ∧ wvs done' = true ∧
      ((q = [] ∧ q' = [] ∧ done' = one) ∨ ∃ r l t, q = (r, l) :: t ∧ q' = (r, l ++ one) :: t ∧ done' = done)) := by
  have e1 := eq_o (n := n) (σ := s5 P x D (some O)) (i := 4) hO wo rfl
  have e2 := eq_q (n := n) (σ := s5 P x D (some O)) (h.push (.lst [])) rfl
  have e3 := ne_o (n := n) (σ := s5 P x D (some O)) (i := 3) ((hD.push (.lst [])).push (.lst [])) wd rfl
  have cnd : ∃ S', R.E (cx n) (.bor (.cmp .eq (.var 4) (.lst true .nil)) (.band (.cmp .eq (.var 2) (.lst true .nil)) (.cmp .ne (.var 3) (.lst true .nil)))) (s5 P x D (some O)) S (.bl (one.isEmpty || (q.isEmpty && !done.isEmpty))) S' ∧ QV S' q ∧ OV S' q D done ∧ OV S' q O one := by
    cases b1 : one.isEmpty with
    | true =>
      rw [b1] at e1
      exact ⟨_, R.borT e1, h.push _, hD.push _, hO.push _⟩
    | false =>
      rw [b1] at e1
      cases b2 : q.isEmpty with
      | false =>
        rw [b2] at e2
        exact ⟨_, R.borF e1 (R.bandF e2), (h.push _).push _, (hD.push _).push _, (hO.push _).push _⟩
      | true =>
        rw [b2] at e2
        exact ⟨_, R.borF e1 (R.bandT e2 e3), ((h.push _).push _).push _, ((hD.push _).push _).push _, ((hO.push _).push _).push _⟩
  obtain ⟨S1, c1, c2, c3, c4⟩ := cnd
  cases hb : (one.isEmpty || (q.isEmpty && !done.isEmpty)) with
  | true =>
    rw [hb] at c1
    obtain ⟨_, r1, r2, _⟩ := ret0 (n := n) (σ := s5 P x D (some O)) (S := S1)
    exact .inl ⟨rfl, _, _, R.ssR (R.ifs c1 (fun _ => r1) fun z => nomatch z), r2⟩
  | false =>
    rw [hb] at c1
    have one1 : ∃ y, one = [y] := by
      cases one with
      | nil => simp at hb
      | cons y t =>
        cases t with
        | nil => exact ⟨y, rfl⟩
        | cons z t => simp at h1
    obtain ⟨y, rfl⟩ := one1
    have c5 := eq_q (n := n) (σ := s5 P x D (some O)) c2 rfl
    have pre := R.ifs (C := cx n) (a := .cons (.ret (.lst true .nil)) .nil) (b := .nil) (o := .nx (s5 P x D (some O))) (S2 := S1) c1 (fun z => nomatch z) fun _ => R.ssN
    refine .inr ⟨rfl, ?_⟩
    cases q with
    | nil => exact ⟨_, O, [], [y], R.ssC pre (R.ssC (R.ifs (p := true) c5 (fun _ => R.ssC (R.asg (R.var rfl)) R.ssN) fun z => nomatch z) R.ssN), c2.push _, c4.push _, wo, .inl ⟨rfl, rfl, rfl⟩⟩
    | cons p t =>
      obtain ⟨r, l⟩ := p
      have c6 := c2.push (.lst [])
      have c7 := c4.push (.lst [])
      have hr : (S1 ++ [SO.lst []])[r]? = some (.lst l) := c6.at_ (r, l) (by simp)
      have i1 : R.E (cx n) (.idx (.var 2) (.cst (.int (-1)))) (s5 P x D (some O)) (S1 ++ [.lst []]) (.ref r) (S1 ++ [.lst []]) := by
        refine R.idx (R.var rfl) R.cst ?_
        show (match (S1 ++ [SO.lst []])[0]? with
          | some (.lst l) => atP l (-1)
          | some (.dct l) => (keyOf (.int (-1))).bind (lookK l)
          | none => none) = _
        rw [c6.top]
        show atP _ (-1) = _
        unfold atP
        rw [if_neg (by decide)]
        simp only [List.map_cons, List.reverse_cons, List.map_append, List.length_append, List.length_map, List.length_reverse, List.map_nil, List.length_cons, List.length_nil]
        rw [if_pos (by omega)]
        have e : ((-1 : Int) + ((t.length + (0 + 1) : Nat) : Int)).toNat = t.length := by omega
        rw [e, List.getElem?_append_right (by simp)]
        simp
      have i2 : R.E (cx n) (.idx (.var 4) (.cst (.int 0))) (s5 P x D (some O)) (S1 ++ [.lst []]) y (S1 ++ [.lst []]) := by
        refine R.idx (x := O) (R.var rfl) R.cst ?_
        rcases c7 with e | ⟨k, e, hk, _⟩
        · subst e; rfl
        · subst e
          show (match (S1 ++ [SO.lst []])[k]? with
            | some (.lst l) => atP l 0
            | some (.dct l) => (keyOf (.int 0)).bind (lookK l)
            | none => none) = _
          rw [hk]
          rfl
      have hll := hl (r, l) (by simp)
      have ap := R.append i1 hr i2 hr (by dsimp only at hll; omega)
      have hrn : r ∉ t.map (·.1) ∧ (t.map (·.1)).Nodup := by simpa using c6.nd
      have hr0 : r ≠ 0 := fun z => c6.no (by simp [z])
      refine ⟨_, D, (r, l ++ [y]) :: t, done, R.ssC pre (R.ssC (R.ifs (p := false) c5 (fun z => nomatch z) fun _ => R.ssC (R.expr ap) R.ssN) R.ssN), ?_, ?_, wd, .inr ⟨r, l, t, rfl, rfl, rfl⟩⟩
      · refine ⟨?_, ?_, by simpa using c6.nd, by simpa using c6.no, ?_⟩
        · rw [setne hr0]
          exact c6.top
        · intro p hp
          rcases List.mem_cons.mp hp with rfl | hp
          · exact setk hr
          · have hne : p.1 ≠ r := fun z => hrn.1 (by rw [← z]; exact List.mem_map.mpr ⟨p, hp, rfl⟩)
            rw [setne (Ne.symm hne)]
            exact c6.at_ p (List.mem_cons_of_mem _ hp)
        · intro p hp
          rcases List.mem_cons.mp hp with rfl | hp
          · have := c6.wv (r, l) (by simp)
            rw [wvs_mem] at this wo ⊢
            intro v hv
            rcases List.mem_append.mp hv with hv | hv
            · exact this v hv
            · exact wo v hv
          · exact c6.wv p (List.mem_cons_of_mem _ hp)
      · rcases c3.push (.lst []) with e | ⟨k, e, hk, hk1, hk2⟩
        · exact .inl e
        · have hkr : k ≠ r := fun z => hk1 (by simp [z])
          exact .inr ⟨k, e, by rw [setne (Ne.symm hkr)]; exact hk, by simpa using hk1, hk2⟩
end Ev.K88

set_option Elab.async false
set_option linter.all false
set_option maxRecDepth 100000
set_option maxHeartbeats 1000000
/-! k88: value_of, the turns -/
namespace Ev.K88
open PySem L2 Ev PyProof.Rows
def tot (q : Q) : Nat := (q.map fun p => nds p.2 + 1).sum
def bVo : ISs := (.cons (.ifs (.cmp .eq (.var 1) (.cst (.str (Str.ofString "(")))) (.cons (.expr (.meth .append (.var 2) (.cons (.lst true .nil) .nil)))
    (.cons .cont
    .nil)) .nil)
    (.cons (.ifs (.cmp .eq (.var 1) (.cst (.str (Str.ofString " ")))) (.cons .cont
    .nil) .nil)
    (.cons (.ifs (.cmp .eq (.var 1) (.cst (.str (Str.ofString ")")))) (.cons (.ifs (.cmp .eq (.var 2) (.lst true .nil)) (.cons (.ret (.lst true .nil))
    .nil) .nil)
    (.cons (.asg 4 (.lst true (.cons (.bi .tuple (.meth .pop (.var 2) .nil)) .nil)))
    .nil)) (.cons (.asg 4 (.call 5 (.cons (.var 1) .nil)))
    .nil))
    bPut)))
theorem cont_ev {n : Nat} {σ : Sl} {S : Sto} : R.Ss (cx n) (.cons .cont .nil) σ S (.ct σ) S := R.ssK (show evS (cx n) .cont σ S = .ok (.ct σ) S by unfold evS; rfl)
theorem str_ne {p : List Nat} {c : Nat} {z : Str} (hz : z = sOf [c]) (h : p ≠ [c]) : (sOf p == z) = false := by
  subst hz
  exact beq_eq_false_iff_ne.mpr fun e => h (sOf_inj e)
theorem leaf_nd {a : PV} (h : leafV a = true) (hw : wv a = true) : nd a = 1 := by
  cases a <;> simp_all [leafV, wv, nd]
/-- where a turn leads -/
def Nxt (P : PV) (σ' : Sl) (S' : Sto) (p : List Nat) (q : Q) (done : List PV) : Prop :=
  ∃ (x' : Option PV) (D' : PV) (O' : Option PV) (q' : Q) (done' : List PV), σ' = s5 P x' D' O' ∧ QV S' q' ∧ OV S' q' D' done' ∧ wvs done' = true ∧ done'.length ≤ 1 ∧ tot q' + nds done' ≤ tot q + nds done + 1 ∧ ∀ r, vo (p :: r) (q.map (·.2)) done = vo r (q'.map (·.2)) done'
def Trn (P D : PV) (O : Option PV) (S : Sto) (p : List Nat) (q : Q) (done : List PV) : Prop :=
  (∃ u S', R.Ss (cx 33) bVo (s5 P (some (.str (sOf p))) D O) S (.rt u) S' ∧ frzV S' u = some (.lst []) ∧ ∀ r, vo (p :: r) (q.map (·.2)) done = []) ∨
  (∃ σ' S', (R.Ss (cx 33) bVo (s5 P (some (.str (sOf p))) D O) S (.nx σ') S' ∨ R.Ss (cx 33) bVo (s5 P (some (.str (sOf p))) D O) S (.ct σ') S') ∧ Nxt P σ' S' p q done)
theorem put_trn {P D O : PV} {x : Option PV} {S : Sto} {p : List Nat} {q q0 : Q} {done one : List PV} (h : QV S q) (hD : OV S q D done) (hO : OV S q O one) (wd : wvs done = true) (wo : wvs one = true) (h1 : one.length ≤ 1) (hl : ∀ p ∈ q, p.2.length < 1000000) (hd1 : done.length ≤ 1)
    (hm : tot q + nds one ≤ tot q0 + 1) (hv : ∀ r, vo (p :: r) (q0.map (·.2)) done = put r (q.map (·.2)) done one) :
    (∃ u S', R.Ss (cx 33) bPut (s5 P x D (some O)) S (.rt u) S' ∧ frzV S' u = some (.lst []) ∧ ∀ r, vo (p :: r) (q0.map (·.2)) done = []) ∨
    (∃ σ' S', R.Ss (cx 33) bPut (s5 P x D (some O)) S (.nx σ') S' ∧ Nxt P σ' S' p q0 done) := by
  rcases put_step (n := 33) (P := P) (x := x) h hD hO wd wo h1 hl with ⟨b, u, S', e1, e2⟩ | ⟨b, S', D', q', done', e1, e2, e3, e4, e5⟩
  · refine .inl ⟨u, S', e1, e2, fun r => ?_⟩
    rw [hv]
    unfold put
    have b2 : (one.isEmpty || ((q.map (·.2)).isEmpty && !done.isEmpty)) = true := by simpa using b
    rw [if_pos b2]
  · have b2 : ¬ (one.isEmpty || ((q.map (·.2)).isEmpty && !done.isEmpty)) = true := by
      have : (one.isEmpty || ((q.map (·.2)).isEmpty && !done.isEmpty)) = false := by simpa using b
      rw [this]; decide
    refine .inr ⟨_, S', e1, x, D', some O, q', done', rfl, e2, e3, e4, ?_, ?_, fun r => ?_⟩
    · rcases e5 with ⟨_, _, rfl⟩ | ⟨_, _, _, _, _, rfl⟩
      · exact h1
      · exact hd1
    · rcases e5 with ⟨rfl, rfl, rfl⟩ | ⟨r, l, t, rfl, rfl, rfl⟩
      · simp only [tot, List.map_nil, List.sum_nil] at hm ⊢
        omega
      · simp only [tot, List.map_cons, List.sum_cons, nds_append] at hm ⊢
        omega
    · rw [hv]
      unfold put
      rw [if_neg b2]
      rcases e5 with ⟨rfl, rfl, rfl⟩ | ⟨r, l, t, rfl, rfl, rfl⟩
      · rfl
      · rfl
theorem vo_step {P D : PV} {O : Option PV} {S : Sto} {p : List Nat} {q : Q} {done : List PV} (h : QV S q) (hD : OV S q D done) (wd : wvs done = true) (hp : SOk (sOf p)) (hp1 : p ≠ []) (hl : ∀ p ∈ q, p.2.length < 1000000) (hq : q.length < 1000000) (hd1 : done.length ≤ 1) : Trn P D O S p q done := by
  have p1 : Str.ofString "(" = sOf [40] := by decide +kernel
  have p2 : Str.ofString " " = sOf [32] := by decide +kernel
  have p3 : Str.ofString ")" = sOf [41] := by decide +kernel
  have k1 : PyData.strOk (Str.ofString "(") = true := by decide +kernel
  have k2 : PyData.strOk (Str.ofString " ") = true := by decide +kernel
  have k3 : PyData.strOk (Str.ofString ")") = true := by decide +kernel
  have c1 : R.E (cx 33) (.cmp .eq (.var 1) (.cst (.str (Str.ofString "(")))) (s5 P (some (.str (sOf p))) D O) S (.bl (sOf p == Str.ofString "(")) S := R.cmp (R.var rfl) R.cst (eqV2_str (S := S) hp.1 k1)
  have c2 : R.E (cx 33) (.cmp .eq (.var 1) (.cst (.str (Str.ofString " ")))) (s5 P (some (.str (sOf p))) D O) S (.bl (sOf p == Str.ofString " ")) S := R.cmp (R.var rfl) R.cst (eqV2_str (S := S) hp.1 k2)
  have c3 : R.E (cx 33) (.cmp .eq (.var 1) (.cst (.str (Str.ofString ")")))) (s5 P (some (.str (sOf p))) D O) S (.bl (sOf p == Str.ofString ")")) S := R.cmp (R.var rfl) R.cst (eqV2_str (S := S) hp.1 k3)
  have hlen : ∀ k o, S[k]? = some o → k < S.length := fun k o e => (List.getElem?_eq_some_iff.mp e).1
  by_cases h40 : p = [40]
  · subst h40
    have b : (sOf [40] == Str.ofString "(") = true := by rw [p1]; exact beq_self_eq_true _
    rw [b] at c1
    have ap := R.append (C := cx 33) (o := .var 2) (e := .lst true .nil) (σ := s5 P (some (.str (sOf [40]))) D O) (S := S) (n := 0) (R.var rfl) h.top (R.lstT R.nil) (get_push h.top) (by simp; omega)
    refine .inr ⟨_, _, .inr (R.ssK (R.ifs c1 (fun _ => R.ssC (R.expr ap) cont_ev) fun z => nomatch z)), _, D, O, (S.length, []) :: q, done, rfl, ⟨?_, ?_, ?_, ?_, ?_⟩, ?_, wd, hd1, ?_, fun r => ?_⟩
    · rw [setk (get_push h.top)]
      simp
    · intro y hy
      rcases List.mem_cons.mp hy with rfl | hy
      · rw [setne (by have := hlen 0 _ h.top; omega)]
        exact get_last _ _
      · rw [setne (fun z => h.no (by rw [z]; exact List.mem_map.mpr ⟨y, hy, rfl⟩))]
        exact get_push (h.at_ y hy)
    · refine List.nodup_cons.mpr ⟨fun z => ?_, h.nd⟩
      obtain ⟨y, hy, e⟩ := List.mem_map.mp z
      have := hlen y.1 _ (h.at_ y hy)
      dsimp only at e
      omega
    · intro z
      rcases List.mem_cons.mp z with e | e
      · have := hlen 0 _ h.top
        dsimp only at e
        omega
      · exact h.no e
    · intro y hy
      rcases List.mem_cons.mp hy with rfl | hy
      · rfl
      · exact h.wv y hy
    · rcases hD with e | ⟨k, e, hk, hk1, hk2⟩
      · exact .inl e
      · refine .inr ⟨k, e, by rw [setne (Ne.symm hk2)]; exact get_push hk, fun z => ?_, hk2⟩
        rcases List.mem_cons.mp z with e2 | e2
        · have := hlen k _ hk
          dsimp only at e2
          omega
        · exact hk1 e2
    · simp [tot, nds]; omega
    · rw [vo_open]; rfl
  · have b1 := str_ne p1 h40
    rw [b1] at c1
    have t1 := R.ifs (C := cx 33) (a := .cons (.expr (.meth .append (.var 2) (.cons (.lst true .nil) .nil))) (.cons .cont .nil)) (o := .nx (s5 P (some (.str (sOf p))) D O)) (S2 := S) c1 (fun z => nomatch z) fun _ => R.ssN
    by_cases h32 : p = [32]
    · subst h32
      have b : (sOf [32] == Str.ofString " ") = true := by rw [p2]; exact beq_self_eq_true _
      rw [b] at c2
      exact .inr ⟨_, _, .inr (R.ssC t1 (R.ssK (R.ifs c2 (fun _ => cont_ev) fun z => nomatch z))), _, D, O, q, done, rfl, h, hD, wd, hd1, by omega, fun r => vo_blank⟩
    · have b2 := str_ne p2 h32
      rw [b2] at c2
      have t2 := R.ifs (C := cx 33) (a := .cons .cont .nil) (o := .nx (s5 P (some (.str (sOf p))) D O)) (S2 := S) c2 (fun z => nomatch z) fun _ => R.ssN
      by_cases h41 : p = [41]
      · subst h41
        have b : (sOf [41] == Str.ofString ")") = true := by rw [p3]; exact beq_self_eq_true _
        rw [b] at c3
        have cq := eq_q (n := 33) (σ := s5 P (some (.str (sOf [41]))) D O) h rfl
        cases q with
        | nil =>
          obtain ⟨_, r1, r2, _⟩ := ret0 (n := 33) (σ := s5 P (some (.str (sOf [41]))) D O) (S := S ++ [.lst []])
          exact .inl ⟨_, _, R.ssC t1 (R.ssC t2 (R.ssR (R.ifs c3 (fun _ => R.ssR (R.ifs (p := true) cq (fun _ => r1) fun z => nomatch z)) fun z => nomatch z))), r2, fun r => vo_close0⟩
        | cons y t =>
          obtain ⟨r, l⟩ := y
          have cq : R.E (cx 33) (.cmp .eq (.var 2) (.lst true .nil)) (s5 P (some (.str (sOf [41]))) D O) S (.bl false) (S ++ [.lst []]) := cq
          have h' := h.push (.lst [])
          have hrl := h'.at_ (r, l) (by simp)
          have hrn : r ∉ t.map (·.1) ∧ (t.map (·.1)).Nodup := by simpa using h.nd
          have hr0 : r ≠ 0 := fun z => h.no (by simp [z])
          have t0 : 0 ∉ t.map (·.1) := fun z => h.no (by simp only [List.map_cons]; exact List.mem_cons_of_mem _ z)
          have top' : (S ++ [SO.lst []])[0]? = some (.lst ((t.map (·.1)).reverse.map PV.ref ++ [PV.ref r])) := by
            rw [h'.top]
            simp
          have po := R.pop (C := cx 33) (o := .var 2) (σ := s5 P (some (.str (sOf [41]))) D O) (S := S ++ [.lst []]) (n := 0) (R.var rfl) top'
          have it : biV ((S ++ [SO.lst []]).set 0 (.lst ((t.map (·.1)).reverse.map PV.ref))) .tuple (.ref r) = some (.tup l) := by
            show (itemsOf _ (.ref r)).map PV.tup = _
            rw [R.itemsOf_ref (l := l) (by rw [setne (Ne.symm hr0)]; exact hrl)]
            rfl
          have as := R.asg (C := cx 33) (i := 4) (R.lstT (R.cons (R.bi po it) R.nil))
          have hS0 := hlen 0 _ h.top
          have ltS : ∀ y ∈ t, y.1 < S.length := fun y hy => hlen y.1 _ (h.at_ y (List.mem_cons_of_mem _ hy))
          have q2 : QV ((S ++ [SO.lst []]).set 0 (.lst ((t.map (·.1)).reverse.map PV.ref)) ++ [.lst [.tup l]]) t := by
            refine ⟨get_push (setk top'), fun y hy => ?_, hrn.2, t0, fun y hy => h.wv y (List.mem_cons_of_mem _ hy)⟩
            refine get_push ?_
            rw [setne (fun z => t0 (by rw [z]; exact List.mem_map.mpr ⟨y, hy, rfl⟩))]
            exact h'.at_ y (List.mem_cons_of_mem _ hy)
          have d2 : OV ((S ++ [SO.lst []]).set 0 (.lst ((t.map (·.1)).reverse.map PV.ref)) ++ [.lst [.tup l]]) t D done := by
            rcases hD with e | ⟨k, e, hk, hk1, hk2⟩
            · exact .inl e
            · refine .inr ⟨k, e, get_push ?_, fun z => hk1 (by simp only [List.map_cons]; exact List.mem_cons_of_mem _ z), hk2⟩
              rw [setne (Ne.symm hk2)]
              exact get_push hk
          have o2 : OV ((S ++ [SO.lst []]).set 0 (.lst ((t.map (·.1)).reverse.map PV.ref)) ++ [.lst [.tup l]]) t (.ref ((S ++ [SO.lst []]).set 0 (.lst ((t.map (·.1)).reverse.map PV.ref))).length) [.tup l] := by
            refine .inr ⟨_, rfl, get_last _ _, fun z => ?_, ?_⟩
            · obtain ⟨y, hy, e⟩ := List.mem_map.mp z
              have := ltS y hy
              simp only [List.length_set, List.length_append] at e
              omega
            · simp
          have wl : wvs [PV.tup l] = true := by
            have := h.wv (r, l) (by simp)
            simpa [wvs, wv] using this
          have pre := R.ifs (C := cx 33) (a := .cons (.ret (.lst true .nil)) .nil) (b := .nil) (o := .nx (s5 P (some (.str (sOf [41]))) D O)) (S2 := S ++ [.lst []]) cq (fun z => nomatch z) fun _ => R.ssN
          have t3 := R.ifs (C := cx 33) (b := .cons (.asg 4 (.call 5 (.cons (.var 1) .nil))) .nil) c3 (fun _ => R.ssC pre (R.ssC as R.ssN)) fun z => nomatch z
          rcases put_trn (P := P) (x := some (.str (sOf [41]))) (p := [41]) (q0 := (r, l) :: t) q2 d2 o2 wd wl (by simp) (fun y hy => hl y (List.mem_cons_of_mem _ hy)) hd1 (by simp [tot, nds, nd]; omega) (fun r' => vo_close) with ⟨u, S', e1, e2, e3⟩ | ⟨σ', S', e1, e2⟩
          · exact .inl ⟨u, S', R.ssC t1 (R.ssC t2 (R.ssC t3 e1)), e2, e3⟩
          · exact .inr ⟨σ', S', .inl (R.ssC t1 (R.ssC t2 (R.ssC t3 e1))), e2⟩
      · have b3 := str_ne p3 h41
        rw [b3] at c3
        obtain ⟨w, hw, hw2⟩ := plain_of_ok (n := 31) hp (by rw [sOf_len]; cases p with | nil => exact absurd rfl hp1 | cons a b => simp)
        have ew := plR_eq hw
        have as := R.asg (C := cx 33) (i := 4) (R.call (C := cx 33) (f := 5) (σ := s5 P (some (.str (sOf p))) D O) (S := S) (R.cons (R.var (i := 1) rfl) R.nil) (hw S))
        have t3 := R.ifs (C := cx 33) (a := (.cons (.ifs (.cmp .eq (.var 2) (.lst true .nil)) (.cons (.ret (.lst true .nil)) .nil) .nil) (.cons (.asg 4 (.lst true (.cons (.bi .tuple (.meth .pop (.var 2) .nil)) .nil))) .nil))) c3 (fun z => nomatch z) fun _ => R.ssC as R.ssN
        have wo : wvs w = true ∧ w.length ≤ 1 ∧ nds w ≤ 1 := by
          rcases hw2 with rfl | ⟨a, rfl, g1, g2⟩
          · exact ⟨rfl, by simp, by simp [nds]⟩
          · exact ⟨by simp [wvs, g1], by simp, by simp [nds, leaf_nd g2 g1]⟩
        rcases put_trn (P := P) (x := some (.str (sOf p))) (p := p) (q0 := q) h hD (.inl rfl) wd wo.1 wo.2.1 hl hd1 (by omega) (fun r' => by rw [vo_word h40 h32 h41, ew]) with ⟨u, S', e1, e2, e3⟩ | ⟨σ', S', e1, e2⟩
        · exact .inl ⟨u, S', R.ssC t1 (R.ssC t2 (R.ssC t3 e1)), e2, e3⟩
        · exact .inr ⟨σ', S', .inl (R.ssC t1 (R.ssC t2 (R.ssC t3 e1))), e2⟩
end Ev.K88

set_option Elab.async false
set_option linter.all false
set_option maxRecDepth 100000
set_option maxHeartbeats 1000000
/-! k88: value_of whole; the round trip -/
namespace Ev.K88
open PySem L2 Ev PyProof.Rows
def pokB (p : List Nat) : Prop := SOk (sOf p) ∧ p ≠ []
theorem q_small {q : Q} {N : Nat} (h : tot q ≤ N) : (∀ p ∈ q, p.2.length ≤ N) ∧ q.length ≤ N := by
  induction q generalizing N with
  | nil => exact ⟨by simp, by simp⟩
  | cons a r ih =>
    simp only [tot, List.map_cons, List.sum_cons] at h
    have ih := ih (N := N - (nds a.2 + 1)) (by simp only [tot]; omega)
    have hl := len_nds a.2
    refine ⟨fun p hp => ?_, by have := ih.2; simp only [List.length_cons]; omega⟩
    rcases List.mem_cons.mp hp with rfl | hp
    · omega
    · have := ih.1 p hp
      omega
theorem value_of_ok {ps : List (List Nat)} (hp : ∀ p ∈ ps, pokB p) (hn : ps.length ≤ 1000) :
    Cl 34 6 [.lst (ps.map fun p => .str (sOf p))] (.lst (vo ps [] [])) ∧ wvs (vo ps [] []) = true ∧ (vo ps [] []).length ≤ 1 ∧ nds (vo ps [] []) ≤ ps.length := by
  let P : PV := .lst (ps.map fun p => .str (sOf p))
  have q := R.forI (ok := fun S' => stays S' (ps.map fun p => .str (sOf p), none)) (body := fun σ' S' => evSs (cx 33) bVo σ' S') (tg := .one 1)
    (fun r σ S => ∃ (t : List (List Nat)) (x : Option PV) (D : PV) (O : Option PV) (q : Q) (done : List PV), r = t.map (fun p => PV.str (sOf p)) ∧ σ = s5 P x D O ∧ QV S q ∧ OV S q D done ∧ wvs done = true ∧ done.length ≤ 1 ∧ tot q + nds done + t.length ≤ ps.length ∧ vo t (q.map (·.2)) done = vo ps [] [] ∧ ∀ p ∈ t, pokB p)
    (fun u S => frzV S u = some (.lst []) ∧ vo ps [] [] = []) (fun _ _ _ _ => rfl)
    (fun a r σ S ⟨t, x, D, O, q, done, e1, e2, e3, e4, e5, e6, e7, e8, e9⟩ => by
      subst e2
      cases t with
      | nil => simp at e1
      | cons p t =>
        rw [List.map_cons] at e1
        injection e1 with e1a e1
        subst e1a
        simp only [List.length_cons] at e7
        have qs := q_small (q := q) (N := 1000) (by omega)
        refine ⟨_, rfl, ?_⟩
        have hpp := e9 p (by simp)
        rcases vo_step (P := P) (D := D) (O := O) e3 e4 e5 hpp.1 hpp.2 (fun y hy => by have := qs.1 y hy; omega) (by have := qs.2; omega) e6 with ⟨u, S', f1, f2, f3⟩ | ⟨σ', S', f1, x', D', O', q', done', g1, g2, g3, g4, g5, g6, g7⟩
        · exact .inr ⟨u, S', f1, f2, by rw [← e8, f3]⟩
        · exact .inl ⟨σ', S', f1, t, x', D', O', q', done', e1, g1, g2, g3, g4, g5, by omega, by rw [← e8, g7], fun y hy => e9 y (List.mem_cons_of_mem _ hy)⟩)
    (ps.map fun p => .str (sOf p)) (s5 P none (.ref 1) none) [.lst [], .lst []] ⟨ps, none, .ref 1, none, [], [], rfl, rfl, ⟨rfl, by simp, by simp, by simp, by simp⟩, .inr ⟨1, rfl, rfl, by simp, by decide⟩, rfl, by simp, by simp [tot, nds], rfl, hp⟩
  have s1 : R.St (cx 33) (.par [2, 3] (.cons (.lst true .nil) (.cons (.lst true .nil) .nil))) [some P, none, none, none, none] [] (.nx (s5 P none (.ref 1) none)) [.lst [], .lst []] :=
    R.par (vs := [.ref 0, .ref 1]) (R.cons (S1 := [.lst []]) (R.lstT R.nil) (R.cons (R.lstT R.nil) R.nil)) rfl
  have hnr : noRefs [P] = true := by
    have e : (ps.map fun p => PV.str (sOf p)) = (ps.map sOf).map PV.str := by rw [List.map_map]; rfl
    refine noRefs_cons.mpr ⟨?_, by simp [noRefs]⟩
    show noRef (PV.lst (ps.map fun p => .str (sOf p))) = true
    rw [e]
    unfold noRef
    exact noRefs_strs _
  have sq : evSrc (cx 33) (.seq (.var 0)) (s5 P none (.ref 1) none) [.lst [], .lst []] = .ok (ps.map fun p => .str (sOf p), none) [.lst [], .lst []] := R.seq (v := P) (R.var rfl) rfl
  have fin : ∀ {u : PV} {S' : Sto} {r : List PV}, R.Ss (cx 33) b_value_of [some P, none, none, none, none] [] (.rt u) S' → frzV S' u = some (.lst r) → Cl 34 6 [P] (.lst r) := fun {u S' r} h hf =>
    cl_of (d := ⟨1, 5, true, b_value_of⟩) rfl rfl hnr (R.run rfl h) hf
  rcases q with ⟨σ2, S2, e, t, x, D, O, q, done, e1, e2, e3, e4, e5, e6, e7, e8, _⟩ | ⟨u, S2, e, e1, e2⟩
  · have ht : t = [] := by
      cases t with
      | nil => rfl
      | cons a b => simp at e1
    subst ht e2
    have f := R.for_ (C := cx 33) sq e
    have cq := eq_q (n := 33) (σ := s5 P x D O) e3 rfl
    cases q with
    | nil =>
      have er : vo ps [] [] = done := by rw [← e8]; rfl
      have hz : R.E (cx 33) (.ife (.cmp .eq (.var 2) (.lst true .nil)) (.var 3) (.lst true .nil)) (s5 P x D O) S2 D (S2 ++ [.lst []]) := R.ife cq (fun _ => R.var rfl) fun z => nomatch z
      have hm := fin (R.ssC s1 (R.ssC f (R.ssR (R.ret hz)))) ((e4.push (.lst [])).frz e5)
      rw [er]
      exact ⟨hm, e5, e6, by simp only [List.length_nil] at e7; omega⟩
    | cons a b =>
      have er : vo ps [] [] = [] := by rw [← e8]; rfl
      have hz : R.E (cx 33) (.ife (.cmp .eq (.var 2) (.lst true .nil)) (.var 3) (.lst true .nil)) (s5 P x D O) S2 (.ref (S2 ++ [SO.lst []]).length) (S2 ++ [.lst []] ++ [.lst []]) := R.ife cq (fun z => nomatch z) fun _ => R.lstT R.nil
      have hm := fin (R.ssC s1 (R.ssC f (R.ssR (R.ret hz)))) (frz_ref (get_last _ _) rfl)
      rw [er]
      exact ⟨hm, rfl, by simp, by simp [nds]⟩
  · have f := R.for_ (C := cx 33) sq e
    have hm := fin (R.ssC s1 (R.ssR f)) e1
    rw [e2]
    exact ⟨hm, rfl, by simp, by simp [nds]⟩
/-! ### pieces -/
theorem glue_flat (c : Nat) (ps : List (List Nat)) : (glue c ps).flatten = c :: ps.flatten := by
  unfold glue
  split
  · simp
  · split
    · split <;> simp
    · simp
theorem pcs_flat : ∀ l : List Nat, (pcs l).flatten = l
  | [] => rfl
  | c :: r => by
    show (glue c (pcs r)).flatten = _
    rw [glue_flat, pcs_flat r]
theorem glue_ne {c : Nat} {ps : List (List Nat)} (h : ∀ p ∈ ps, p ≠ []) : ∀ p ∈ glue c ps, p ≠ [] := by
  intro p hp
  unfold glue at hp
  split at hp
  · rcases List.mem_cons.mp hp with rfl | hp
    · simp
    · exact h p hp
  · split at hp
    · split at hp
      · rcases List.mem_cons.mp hp with rfl | hp
        · simp
        · exact h p hp
      · rcases List.mem_cons.mp hp with rfl | hp
        · simp
        · exact h p (List.mem_cons_of_mem _ hp)
    · rcases List.mem_cons.mp hp with rfl | hp
      · simp
      · exact h p hp
theorem pcs_ne : ∀ (l : List Nat), ∀ p ∈ pcs l, p ≠ []
  | [], _, h => by cases h
  | c :: r, p, h => glue_ne (pcs_ne r) p h
theorem flat_len : ∀ {ps : List (List Nat)}, (∀ p ∈ ps, p ≠ []) → ps.length ≤ ps.flatten.length
  | [], _ => by simp
  | p :: r, h => by
    have ih := flat_len (ps := r) fun x hx => h x (List.mem_cons_of_mem _ hx)
    have h1 := h p (by simp)
    have : 1 ≤ p.length := by
      cases p with
      | nil => exact absurd rfl h1
      | cons a b => simp
    simp only [List.flatten_cons, List.length_append, List.length_cons]
    omega
theorem flat_mem {ps : List (List Nat)} {p : List Nat} (h : p ∈ ps) : p.length ≤ ps.flatten.length := by
  induction ps with
  | nil => cases h
  | cons a r ih =>
    simp only [List.flatten_cons, List.length_append]
    rcases List.mem_cons.mp h with rfl | h
    · omega
    · have := ih h
      omega
theorem pcs_ok {s : Str} (hs : SOk s) : (∀ p ∈ pcs s.cps.toList, pokB p) ∧ (pcs s.cps.toList).length ≤ s.length := by
  have hf := pcs_flat s.cps.toList
  have hk := sk_iff.mp hs.1
  refine ⟨fun p hp => ⟨⟨sk_iff.mpr fun c hc => hk c ?_, ?_⟩, pcs_ne _ p hp⟩, ?_⟩
  · rw [← hf]
    exact List.mem_flatten.mpr ⟨p, hp, hc⟩
  · have := flat_mem hp
    rw [hf, len_list] at this
    rw [sOf_len]
    exact Nat.le_trans this hs.2
  · have := flat_len (pcs_ne s.cps.toList)
    rw [hf, len_list] at this
    exact this
/-! ### the round trip -/
def chkA (v : PV) : Bool := (match evF P0 33 5 [.str (sOf (txt v))] [] with
  | .ok (.lst [u]) [] => bqV u v
  | _ => false) && ((txt v).all fun c => !sp c) && !(txt v).isEmpty
theorem chk_s : (atomS.all fun s => chkA (.str s)) = true := by decide +kernel
theorem chk_i : (atomI.all fun i => chkA (.int i)) = true := by decide +kernel
theorem chk_n : chkA .non = true := by decide +kernel
theorem chk_ok {v : PV} (h : chkA v = true) : plR (txt v) = [v] ∧ (∀ c ∈ txt v, sp c = false) ∧ txt v ≠ [] := by
  unfold chkA at h
  simp only [Bool.and_eq_true, List.all_eq_true, Bool.not_eq_true'] at h
  obtain ⟨⟨h1, h2⟩, h3⟩ := h
  refine ⟨?_, h2, fun z => by rw [z] at h3; cases h3⟩
  split at h1
  · rename_i u e
    rw [bqV_eq _ _ h1] at e
    exact plR_eq (cl_run (d := ⟨1, 3, true, b_plain_of⟩) rfl rfl rfl e)
  · cases h1
theorem leaf_chk {v : PV} (h : dv v = true) (hl : leafV v = true) : chkA v = true := by
  cases v with
  | non => exact chk_n
  | int i => exact List.all_eq_true.mp chk_i i (by simpa [dv] using h)
  | str s => exact List.all_eq_true.mp chk_s s (by simpa [dv] using h)
  | tup l => simp [leafV] at hl
  | _ => simp [dv] at h
theorem put_in {r : List (List Nat)} {acc : List PV} {stk : List (List PV)} {done : List PV} {v : PV} : put r (acc :: stk) done [v] = vo r ((acc ++ [v]) :: stk) done := by
  unfold put
  rw [if_neg (by simp)]
theorem sp_40 : sp 40 = true := by decide +kernel
theorem sp_32 : sp 32 = true := by decide +kernel
theorem sp_41 : sp 41 = true := by decide +kernel
theorem val_leaf {v : PV} (h : chkA v = true) {stk : List (List PV)} {done : List PV} {rest : List Nat} (hr : hdSp rest = true) : vo (pcs (txt v ++ rest)) stk done = put (pcs rest) stk done [v] := by
  obtain ⟨h1, h2, h3⟩ := chk_ok h
  rw [pcs_word _ _ h3 h2 hr, vo_word, h1]
  · intro z; have := h2 40 (by rw [z]; simp); rw [sp_40] at this; cases this
  · intro z; have := h2 32 (by rw [z]; simp); rw [sp_32] at this; cases this
  · intro z; have := h2 41 (by rw [z]; simp); rw [sp_41] at this; cases this
theorem hdSp_tail {l : List PV} {rest : List Nat} : hdSp (txtr l ++ 41 :: rest) = true := by
  cases l with
  | nil => exact sp_41
  | cons a b => exact sp_32
mutual
theorem vo_val : ∀ (v : PV), dv v = true → ∀ (stk : List (List PV)) (done : List PV) (rest : List Nat), hdSp rest = true → vo (pcs (txt v ++ rest)) stk done = put (pcs rest) stk done [v]
  | .tup l, h, stk, done, rest, hr => by
    have e : txt (.tup l) ++ rest = 40 :: (txts l ++ 41 :: rest) := by simp [txt]
    rw [e, pcs_sp sp_40, vo_open, vo_vals l (by simpa [dv] using h) [] stk done rest hr]
    rfl
  | .non, h, stk, done, rest, hr => val_leaf (leaf_chk h rfl) hr
  | .int i, h, stk, done, rest, hr => val_leaf (leaf_chk h rfl) hr
  | .str s, h, stk, done, rest, hr => val_leaf (leaf_chk h rfl) hr
  | .bl _, h, _, _, _, _ => by simp [dv] at h
  | .lst _, h, _, _, _, _ => by simp [dv] at h
  | .dct _ _, h, _, _, _, _ => by simp [dv] at h
  | .err _ _ _, h, _, _, _, _ => by simp [dv] at h
  | .ref _, h, _, _, _, _ => by simp [dv] at h
theorem vo_vals : ∀ (l : List PV), dvs l = true → ∀ (acc : List PV) (stk : List (List PV)) (done : List PV) (rest : List Nat), hdSp rest = true → vo (pcs (txts l ++ 41 :: rest)) (acc :: stk) done = put (pcs rest) stk done [.tup (acc ++ l)]
  | [], _, acc, stk, done, rest, hr => by
    simp only [txts, List.nil_append, List.append_nil]
    rw [pcs_sp sp_41, vo_close]
  | v :: r, h, acc, stk, done, rest, hr => by
    have h2 : dv v = true ∧ dvs r = true := by simpa [dvs] using h
    simp only [txts, List.append_assoc]
    rw [vo_val v h2.1 _ _ _ hdSp_tail, put_in, vo_valr r h2.2 _ _ _ _ hr]
    simp
theorem vo_valr : ∀ (l : List PV), dvs l = true → ∀ (acc : List PV) (stk : List (List PV)) (done : List PV) (rest : List Nat), hdSp rest = true → vo (pcs (txtr l ++ 41 :: rest)) (acc :: stk) done = put (pcs rest) stk done [.tup (acc ++ l)]
  | [], _, acc, stk, done, rest, hr => by
    simp only [txtr, List.nil_append, List.append_nil]
    rw [pcs_sp sp_41, vo_close]
  | v :: r, h, acc, stk, done, rest, hr => by
    have h2 : dv v = true ∧ dvs r = true := by simpa [dvs] using h
    simp only [txtr, List.cons_append, List.append_assoc]
    rw [pcs_sp sp_32, vo_blank, vo_val v h2.1 _ _ _ hdSp_tail, put_in, vo_valr r h2.2 _ _ _ _ hr]
    simp
end
theorem vo_whole {v : PV} (h : dv v = true) : vo (pcs (txt v)) [] [] = [v] := by
  have := vo_val v h [] [] [] rfl
  rw [List.append_nil] at this
  rw [this]
  rfl
end Ev.K88

set_option Elab.async false
set_option linter.all false
set_option maxRecDepth 100000
set_option maxHeartbeats 1000000
/-! k88: read_value; drawn values -/
namespace Ev.K88
open PySem L2 Ev PyProof.Rows
mutual
theorem txt_len : ∀ v : PV, wv v = true → (txt v).length + 1 ≤ 502 * nd v
  | .tup l, h => by
    have := (txts_len l (by simpa [wv] using h)).1
    simp only [txt, nd, List.length_cons, List.length_append, List.length_nil]
    omega
  | .non, _ => by simp [txt, nd]
  | .int i, h => by
    have h2 : i.natAbs.log2 < 1900 ∧ (Str.ofString (toString i)).length ≤ 500 := by simpa only [wv, decide_eq_true_eq] using h
    simp only [txt, nd, len_list]
    omega
  | .str s, h => by
    have := (wv_str.mp h).2
    simp only [txt, nd, len_list]
    omega
  | .bl _, h => by simp [wv] at h
  | .lst _, h => by simp [wv] at h
  | .dct _ _, h => by simp [wv] at h
  | .err _ _ _, h => by simp [wv] at h
  | .ref _, h => by simp [wv] at h
theorem txts_len : ∀ l : List PV, wvs l = true → (txts l).length ≤ 502 * nds l ∧ (txtr l).length ≤ 502 * nds l
  | [], _ => by simp [txts, txtr]
  | v :: r, h => by
    have h2 : wv v = true ∧ wvs r = true := by simpa [wvs] using h
    have a := txt_len v h2.1
    have b := (txts_len r h2.2).2
    simp only [txts, txtr, nds, List.length_append, List.length_cons]
    omega
end
mutual
theorem sk_txt : ∀ v : PV, wv v = true → ∀ c ∈ txt v, c < 0x110000
  | .tup l, h, c, hc => by
    simp only [txt, List.mem_cons, List.mem_append, List.not_mem_nil, or_false] at hc
    rcases hc with rfl | hc | rfl
    · decide
    · exact (sk_txts l (by simpa [wv] using h) c).1 hc
    · decide
  | .non, _, c, hc => by
    simp only [txt, List.mem_cons, List.not_mem_nil, or_false] at hc
    omega
  | .int i, h, c, hc => sk_ofString (toString i) c hc
  | .str s, h, c, hc => sk_iff.mp (wv_str.mp h).1 c hc
  | .bl _, h, _, _ => by simp [wv] at h
  | .lst _, h, _, _ => by simp [wv] at h
  | .dct _ _, h, _, _ => by simp [wv] at h
  | .err _ _ _, h, _, _ => by simp [wv] at h
  | .ref _, h, _, _ => by simp [wv] at h
theorem sk_txts : ∀ l : List PV, wvs l = true → ∀ c, (c ∈ txts l → c < 0x110000) ∧ (c ∈ txtr l → c < 0x110000)
  | [], _, c => by simp [txts, txtr]
  | v :: r, h, c => by
    have h2 : wv v = true ∧ wvs r = true := by simpa [wvs] using h
    have a := sk_txt v h2.1 c
    have b := (sk_txts r h2.2 c).2
    simp only [txts, txtr, List.mem_append, List.mem_cons]
    refine ⟨fun z => z.elim a b, fun z => ?_⟩
    rcases z with rfl | z | z
    · decide
    · exact a z
    · exact b z
end
section
variable {s : Str}
theorem read_pre (hs : SOk s) {o : Rs Out} (h : evSs (cx 34) (.cons (.ifs (.bor (.cmp .eq (.var 1) (.lst false .nil)) (.bor (.not (.call 2 (.cons (.idx (.var 1) (.cst (.int 0))) .nil))) (.cmp .ne (.call 3 (.cons (.idx (.var 1) (.cst (.int 0))) .nil)) (.var 0)))) (.cons (.raise 0 (.cons (.cst (.str (Str.ofString "no text of a value"))) (.cons (.cst (.int 0)) .nil)))
    .nil) .nil)
    (.cons (.ret (.idx (.var 1) (.cst (.int 0))))
    .nil)) [some (.str s), some (.lst (vo (pcs s.cps.toList) [] []))] [] = o) : evSs (cx 34) b_read_value [some (.str s), none] [] = o := by
  have ok := pcs_ok hs
  have s2 := hs.2
  have v := (value_of_ok ok.1 (by omega)).1
  have c4 := pieces_ok (n := 33) hs.2
  have s1 : R.St (cx 34) (.ifs (.not (.isi (.var 0) .str)) (.cons (.raise 0 (.cons (.cst (.str (Str.ofString "no text"))) (.cons (.cst (.int 0)) .nil))) .nil) .nil) [some (.str s), none] [] (.nx [some (.str s), none]) [] := R.ifs (p := false) (R.not (b := true) (R.isi (R.var rfl) rfl rfl)) (fun z => nomatch z) fun _ => R.ssN
  have s2 : R.St (cx 34) (.asg 1 (.call 6 (.cons (.call 4 (.cons (.var 0) .nil)) .nil))) [some (.str s), none] [] (.nx [some (.str s), some (.lst (vo (pcs s.cps.toList) [] []))]) [] := R.asg (R.call (R.cons (R.call (R.cons (R.var rfl) R.nil) (c4 [])) R.nil) (v []))
  unfold b_read_value
  unfold evSs
  rw [s1]
  dsimp only
  unfold evSs
  rw [s2]
  exact h
theorem read_ce (hs : SOk s) (h : R.E (cx 34) (.bor (.cmp .eq (.var 1) (.lst false .nil)) (.bor (.not (.call 2 (.cons (.idx (.var 1) (.cst (.int 0))) .nil))) (.cmp .ne (.call 3 (.cons (.idx (.var 1) (.cst (.int 0))) .nil)) (.var 0)))) [some (.str s), some (.lst (vo (pcs s.cps.toList) [] []))] [] (.bl true) []) : Ce 35 7 [.str s] :=
  ce_of (d := ⟨1, 2, true, b_read_value⟩) rfl rfl rfl (R.runX rfl (read_pre hs (R.ssX (R.ifsX h (R.ssX (R.raise (S1 := []) (R.cons R.cst (R.cons R.cst R.nil)) rfl))))))
theorem idx0 {n : Nat} {v : PV} {x : Option PV} : R.E (cx n) (.idx (.var 1) (.cst (.int 0))) [x, some (.lst [v])] [] v [] := R.idx (R.var rfl) R.cst rfl
theorem eqv_nil {l : List PV} (h : wvs l = true) {x : Option PV} : R.E (cx 34) (.cmp .eq (.var 1) (.lst false .nil)) [x, some (.lst l)] [] (.bl l.isEmpty) [] := by
  refine R.cmp (R.var rfl) (R.lstF R.nil) ?_
  rw [cmp_eq, eqV2_ok (by simpa [okV] using wvs_ok l h) rfl (by simp [dp, dps]), bqV_nil]
theorem read_any (hs : SOk s) : (Ce 35 7 [.str s] ∧ ¬ ∃ v, vo (pcs s.cps.toList) [] [] = [v] ∧ isV 60 [v] = true ∧ sOf (txt v) = s) ∨ ∃ v, Cl 35 7 [.str s] v ∧ vo (pcs s.cps.toList) [] [] = [v] ∧ wv v = true ∧ nd v ≤ 500 ∧ sOf (txt v) = s ∧ isV 60 [v] = true := by
  have ok := pcs_ok hs
  have s2 := hs.2
  obtain ⟨_, w1, w2, w3⟩ := value_of_ok ok.1 (by omega)
  have e0 := eqv_nil w1 (x := some (.str s))
  cases hr : vo (pcs s.cps.toList) [] [] with
  | nil =>
    rw [hr] at e0
    refine .inl ⟨read_ce hs ?_, by simp⟩
    rw [hr]
    exact R.borT e0
  | cons v t =>
    have ht : t = [] := by
      rw [hr] at w2
      cases t with
      | nil => rfl
      | cons a b => simp at w2
    subst ht
    rw [hr] at e0 w1 w3
    have wv1 : wv v = true := by simpa [wvs] using w1
    have nd1 : nd v ≤ 500 := by
      simp only [nds] at w3
      omega
    have c2 : R.E (cx 34) (.call 2 (.cons (.idx (.var 1) (.cst (.int 0))) .nil)) [some (.str s), some (.lst [v])] [] (.bl (isV 60 [v])) [] := R.call (R.cons idx0 R.nil) (is_value_ok (n := 32) wv1 (by omega) [])
    cases hv : isV 60 [v] with
    | false =>
      rw [hv] at c2
      refine .inl ⟨read_ce hs ?_, fun ⟨u, e1, e2, _⟩ => ?_⟩
      · rw [hr]
        exact R.borF e0 (R.borT (R.not (b := false) c2))
      · injection e1 with e1
        subst e1
        rw [hv] at e2
        cases e2
    | true =>
      rw [hv] at c2
      have tl := txt_len v wv1
      have c3 : R.E (cx 34) (.cmp .ne (.call 3 (.cons (.idx (.var 1) (.cst (.int 0))) .nil)) (.var 0)) [some (.str s), some (.lst [v])] [] (.bl !(sOf (txt v) == s)) [] := by
        refine R.cmp (R.call (R.cons idx0 R.nil) (value_text_ok (n := 31) wv1 (by omega) (by omega) hv [])) (R.var rfl) ?_
        rw [cmp_ne, eqV2_str (a := sOf (txt v)) (sk_iff.mpr fun c hc => sk_txt v wv1 c hc) hs.1]
        rfl
      cases he : (sOf (txt v) == s) with
      | false =>
        rw [he] at c3
        refine .inl ⟨read_ce hs ?_, fun ⟨u, e1, _, e2⟩ => ?_⟩
        · rw [hr]
          exact R.borF e0 (R.borF (R.not (b := true) c2) c3)
        · injection e1 with e1
          subst e1
          rw [e2] at he
          simp at he
      | true =>
        rw [he] at c3
        refine .inr ⟨v, ?_, rfl, wv1, nd1, eq_of_beq he, hv⟩
        refine cl_of (d := ⟨1, 2, true, b_read_value⟩) (S1 := []) (v' := v) rfl rfl rfl (R.run rfl (read_pre hs ?_)) (frzV_self (wv_noRef wv1))
        rw [hr]
        exact R.ssC (R.ifs (R.borF e0 (R.borF (R.not (b := true) c2) c3)) (fun z => nomatch z) fun _ => R.ssN) (R.ssR (R.ret idx0))
end
/-! ### drawn values -/
def Dr : Nat → PV → Prop
  | 0, v => dv v = true ∧ leafV v = true
  | d + 1, v => (dv v = true ∧ leafV v = true) ∨ ∃ l, v = .tup l ∧ l.length ≤ 3 ∧ ∀ x ∈ l, Dr d x
theorem Dr.leaf {v : PV} (h1 : dv v = true) (h2 : leafV v = true) : ∀ d, Dr d v
  | 0 => ⟨h1, h2⟩
  | _ + 1 => .inl ⟨h1, h2⟩
theorem dvs_mem {l : List PV} : dvs l = true ↔ ∀ v ∈ l, dv v = true := by
  induction l with
  | nil => simp [dvs]
  | cons a r ih => simp [dvs, ih]
theorem Dr.dv : ∀ {d : Nat} {v : PV}, Dr d v → dv v = true
  | 0, _, h => h.1
  | d + 1, v, h => by
    rcases h with h | ⟨l, rfl, _, h⟩
    · exact h.1
    · have : dvs l = true := dvs_mem.mpr fun x hx => Dr.dv (h x hx)
      simpa [K88.dv] using this
theorem dps_le {m : Nat} : ∀ {l : List PV}, (∀ x ∈ l, dp x ≤ m) → dps l ≤ m
  | [], _ => by simp [dps]
  | v :: r, h => by
    have := dps_le (l := r) fun x hx => h x (List.mem_cons_of_mem _ hx)
    have := h v (by simp)
    simp only [dps]
    omega
theorem leaf_dp {v : PV} (h1 : dv v = true) (h2 : leafV v = true) : dp v = 0 := by
  cases v <;> simp_all [leafV, dv, dp]
theorem leaf_nd' {v : PV} (h1 : dv v = true) (h2 : leafV v = true) : nd v = 1 := by
  cases v <;> simp_all [leafV, dv, nd]
theorem leaf_len : ∀ {v : PV}, dv v = true → leafV v = true → (txt v).length ≤ 13 ∧ (txt v).count 40 = 0
  | .non, _, _ => by decide
  | .int i, h, _ => by
    have all : ∀ i ∈ atomI, (txt (.int i)).length ≤ 13 ∧ (txt (.int i)).count 40 = 0 := by decide +kernel
    exact all i (by simpa [dv] using h)
  | .str s, h, _ => by
    have all : ∀ s ∈ atomS, (txt (.str s)).length ≤ 13 ∧ (txt (.str s)).count 40 = 0 := by decide +kernel
    exact all s (by simpa [dv] using h)
  | .tup l, _, h => by simp [leafV] at h
  | .bl _, h, _ => by simp [dv] at h
  | .lst _, h, _ => by simp [dv] at h
  | .dct _ _, h, _ => by simp [dv] at h
  | .err _ _ _, h, _ => by simp [dv] at h
  | .ref _, h, _ => by simp [dv] at h
theorem leaf_val {v : PV} (h1 : dv v = true) (h2 : leafV v = true) {k : Nat} : badV k v = false ∧ kids k v = [] := by
  cases v with
  | non => exact ⟨rfl, rfl⟩
  | int i =>
    have all : ∀ i ∈ atomI, badV 0 (.int i) = false := by decide +kernel
    exact ⟨all i (by simpa [dv] using h1), rfl⟩
  | str s =>
    have all : ∀ s ∈ atomS, badV 0 (.str s) = false := by decide +kernel
    exact ⟨all s (by simpa [dv] using h1), rfl⟩
  | tup l => simp [leafV] at h2
  | _ => simp [dv] at h1
theorem sums_le {m a : Nat} {f : PV → Nat} : ∀ {l : List PV}, l.length ≤ a → (∀ x ∈ l, f x ≤ m) → (l.map f).sum ≤ a * m
  | [], _, _ => by simp
  | v :: r, h, hm => by
    simp only [List.length_cons] at h
    have ih := sums_le (m := m) (a := a - 1) (f := f) (l := r) (by omega) fun x hx => hm x (List.mem_cons_of_mem _ hx)
    have := hm v (by simp)
    have e : a * m = (a - 1) * m + m := by
      rw [← Nat.succ_mul]
      congr 1
      omega
    simp only [List.map_cons, List.sum_cons]
    omega
theorem nds_sum : ∀ l : List PV, nds l = (l.map nd).sum
  | [] => by simp [nds]
  | v :: r => by simp [nds, nds_sum r]
theorem txtr_sum : ∀ l : List PV, (txtr l).length = (l.map fun x => (txt x).length + 1).sum ∧ (txts l).length ≤ (l.map fun x => (txt x).length + 1).sum ∧ (txtr l).count 40 = (l.map fun x => (txt x).count 40).sum ∧ (txts l).count 40 = (l.map fun x => (txt x).count 40).sum
  | [] => by simp [txts, txtr]
  | v :: r => by
    obtain ⟨a, b, c, d⟩ := txtr_sum r
    simp only [txts, txtr, List.map_cons, List.sum_cons, List.length_append, List.length_cons, List.count_append, List.count_cons]
    refine ⟨by omega, by omega, by simp; omega, by omega⟩
def bN : Nat → Nat
  | 0 => 1
  | d + 1 => 1 + 3 * bN d
def bL : Nat → Nat
  | 0 => 13
  | d + 1 => 2 + 3 * (bL d + 1)
def bC : Nat → Nat
  | 0 => 0
  | d + 1 => 1 + 3 * bC d
theorem bN_pos : ∀ d, 1 ≤ bN d
  | 0 => Nat.le_refl _
  | d + 1 => by simp only [bN]; omega
theorem bL_pos : ∀ d, 13 ≤ bL d
  | 0 => Nat.le_refl _
  | d + 1 => by have := bL_pos d; simp only [bL]; omega
theorem Dr.facts : ∀ {d : Nat} {v : PV}, Dr d v → dp v ≤ d ∧ nd v ≤ bN d ∧ (txt v).length ≤ bL d ∧ (txt v).count 40 ≤ bC d
  | 0, v, h => by
    have a := leaf_dp h.1 h.2
    have b := leaf_nd' h.1 h.2
    have c := leaf_len h.1 h.2
    simp only [bN, bL, bC]
    omega
  | d + 1, v, h => by
    rcases h with h | ⟨l, rfl, hl, h⟩
    · have a := leaf_dp h.1 h.2
      have b := leaf_nd' h.1 h.2
      have c := leaf_len h.1 h.2
      have e1 := bN_pos (d + 1)
      have e2 := bL_pos (d + 1)
      omega
    · have ih : ∀ x ∈ l, dp x ≤ d ∧ nd x ≤ bN d ∧ (txt x).length ≤ bL d ∧ (txt x).count 40 ≤ bC d := fun x hx => Dr.facts (h x hx)
      have h1 := dps_le fun x hx => (ih x hx).1
      have h2 := sums_le (f := nd) hl fun x hx => (ih x hx).2.1
      have h3 := sums_le (f := fun x => (txt x).length + 1) (m := bL d + 1) hl fun x hx => by have := (ih x hx).2.2.1; omega
      have h4 := sums_le (f := fun x => (txt x).count 40) hl fun x hx => (ih x hx).2.2.2
      obtain ⟨_, t2, _, t4⟩ := txtr_sum l
      rw [← nds_sum] at h2
      simp only [dp, nd, txt, bN, bL, bC, List.length_cons, List.length_append, List.length_nil, List.count_cons, List.count_append, List.count_nil]
      refine ⟨by omega, by omega, by omega, by simp; omega⟩
theorem isV_dr : ∀ (d k : Nat) (l : List PV), d < k → (∀ x ∈ l, Dr d x) → isV k l = true
  | d, 0, _, h, _ => absurd h (Nat.not_lt_zero _)
  | 0, k + 1, l, _, h => by
    have hb : l.any (badV k) = false := by
      rw [List.any_eq_false]
      intro x hx
      rw [(leaf_val (h x hx).1 (h x hx).2).1]
      decide
    have hk : l.flatMap (kids k) = [] := by
      rw [List.flatMap_eq_nil_iff]
      intro x hx
      exact (leaf_val (h x hx).1 (h x hx).2).2
    unfold isV
    rw [if_neg (by rw [hb]; decide), hk]
    rfl
  | d + 1, k + 1, l, hd, h => by
    have hb : l.any (badV k) = false := by
      rw [List.any_eq_false]
      intro x hx
      rcases h x hx with h1 | ⟨r, rfl, _, _⟩
      · rw [(leaf_val h1.1 h1.2).1]
        decide
      · simp [badV]
        omega
    have hk : ∀ x ∈ l.flatMap (kids k), Dr d x := by
      intro x hx
      obtain ⟨y, hy, hx⟩ := List.mem_flatMap.mp hx
      rcases h y hy with h1 | ⟨r, rfl, _, h2⟩
      · rw [(leaf_val h1.1 h1.2).2] at hx
        cases hx
      · simp only [kids] at hx
        rw [if_pos (by omega)] at hx
        exact h2 x hx
    unfold isV
    rw [if_neg (by rw [hb]; decide)]
    split
    · rfl
    · exact isV_dr d k _ (by omega) hk
end Ev.K88

set_option Elab.async false
set_option linter.all false
set_option maxRecDepth 100000
set_option maxHeartbeats 1000000
/-! k88: the draws -/
namespace Ev.K88
open PySem L2 Ev PyProof.Rows
def kG : Key := .inr (Str.ofString "great")
def kC : Key := .inr (Str.ofString "cells")
def kR : Key := .inr (Str.ofString "rest")
def kT : Key := .inr (Str.ofString "turn")
def dct (cs : List Int) (r : Int) (k : Nat) : List (Key × PV) := [(kG, .ref 0), (kC, .lst (cs.map .int)), (kR, .int r), (kT, .int (k : Int))]
abbrev sto (gs cs : List Int) (r : Int) (k : Nat) : Sto := [.lst (gs.map .int), .dct (dct cs r k)]
/-- the state of the draws -/
def StV (t : Nat) (S : Sto) : Prop := ∃ (gs cs : List Int) (r : Int) (k : Nat), S = sto gs cs r k ∧ gs.length ≤ 63 ∧ cs.length ≤ 63 ∧ k ≤ t
theorem StV.mono {t u : Nat} {S : Sto} (h : StV t S) (hu : t ≤ u) : StV u S := by
  obtain ⟨gs, cs, r, k, e, h1, h2, h3⟩ := h
  exact ⟨gs, cs, r, k, e, h1, h2, by omega⟩
theorem n1 : kG ≠ kC := by decide +kernel
theorem n2 : kG ≠ kR := by decide +kernel
theorem n3 : kG ≠ kT := by decide +kernel
theorem n4 : kC ≠ kR := by decide +kernel
theorem n5 : kC ≠ kT := by decide +kernel
theorem n6 : kR ≠ kT := by decide +kernel
section
variable {gs cs : List Int} {r : Int} {k : Nat}
theorem lk_g : lookK (dct cs r k) kG = some (.ref 0) := by
  simp [lookK, dct, List.find?]
theorem lk_c : lookK (dct cs r k) kC = some (.lst (cs.map .int)) := by
  simp [lookK, dct, List.find?, n1]
theorem lk_r : lookK (dct cs r k) kR = some (.int r) := by
  simp [lookK, dct, List.find?, n2, n4]
theorem lk_t : lookK (dct cs r k) kT = some (.int (k : Int)) := by
  simp [lookK, dct, List.find?, n3, n5, n6]
theorem ix {z : Str} {v : PV} (h : lookK (dct cs r k) (.inr z) = some v) : idxV (sto gs cs r k) (.ref 1) (.str z) = some v := h
theorem put_r {v : Int} : putK (dct cs r k) kR (.int v) = dct cs v k := by
  simp [putK, dct, n1, n2, n3, n4, n5, n6, n1.symm, n2.symm, n3.symm, n4.symm, n5.symm, n6.symm]
theorem put_t {m : Nat} : putK (dct cs r k) kT (.int (m : Int)) = dct cs r m := by
  simp [putK, dct, n1, n2, n3, n4, n5, n6, n1.symm, n2.symm, n3.symm, n4.symm, n5.symm, n6.symm]
theorem sub_r {v : Int} : subV (.ref 1) (.str (Str.ofString "rest")) (.int v) (sto gs cs r k) = some (sto gs cs v k) := by
  show (some kR).bind (fun q => if (dct cs r k).length < 16000000 then some ((sto gs cs r k).set 1 (.dct (putK (dct cs r k) q (.int v)))) else none) = _
  rw [Option.bind_some, if_pos (by simp [dct]), put_r]
  rfl
theorem sub_t {m : Nat} : subV (.ref 1) (.str (Str.ofString "turn")) (.int (m : Int)) (sto gs cs r k) = some (sto gs cs r m) := by
  show (some kT).bind (fun q => if (dct cs r k).length < 16000000 then some ((sto gs cs r k).set 1 (.dct (putK (dct cs r k) q (.int (m : Int))))) else none) = _
  rw [Option.bind_some, if_pos (by simp [dct]), put_t]
  rfl
end
/-! ### a number mixed -/
theorem log_lt {n m : Nat} (h : n < 2 ^ m) (hm : 1 ≤ m) : n.log2 < m := by
  by_cases hn : n = 0
  · subst hn
    simp
    omega
  · exact (Nat.log2_lt hn).mpr h
theorem mul_fits {i j : Int} (hi : i.natAbs < 2 ^ 200) (hj : j.natAbs < 2 ^ 200) : mulFits i j = true := by
  have a := log_lt hi (by decide)
  have b := log_lt hj (by decide)
  exact decide_eq_true (by omega)
theorem bin_mul {i j : Int} (hi : i.natAbs < 2 ^ 200) (hj : j.natAbs < 2 ^ 200) : binV .mul (.int i) (.int j) = some (.int (i * j)) := by
  show (if mulFits i j = true then some (PV.int (i * j)) else none) = _
  rw [if_pos (mul_fits hi hj)]
theorem bin_mod {i j : Int} (hj : 0 < j) : binV .mod (.int i) (.int j) = some (.int (i % j)) := by
  show (if 0 < j then some (PV.int (i % j)) else none) = _
  rw [if_pos hj]
theorem bin_fdiv {i j : Int} (hj : 0 < j) (h2 : j.natAbs < 2 ^ 200) : binV .fdiv (.int i) (.int j) = some (.int (i / j)) := by
  have b := log_lt h2 (by decide)
  show (if 0 < j ∧ j.natAbs.log2 < 9000 then some (PV.int (i / j)) else none) = _
  rw [if_pos ⟨hj, by omega⟩]
abbrev m6 (p tu f b c : Option PV) : Sl := [some (.ref 1), p, tu, f, b, c]
def bCell : ISs := (.cons (.asg 4 (.bin .mod (.bi .int (.bin .add (.bin .add (.bin .mul (.var 4) (.cst (.int 48271))) (.var 5)) (.var 2))) (.var 1)))
    .nil)
theorem small_mod {a p : Int} (h0 : 0 < p) (h : p ≤ 2 ^ 31) : (a % p).natAbs < 2 ^ 31 := by
  have h1 := Int.emod_nonneg a (Int.ne_of_gt h0)
  have h2 := Int.emod_lt_of_pos a h0
  omega
theorem cell_loop {n : Nat} {gs cs : List Int} {r : Int} {k : Nat} {p tu b : Int} {f : PV} {c : Option PV} (hp : 0 < p) (hp2 : p ≤ 2 ^ 31) (hb : b.natAbs < 2 ^ 60) :
    ∃ (b' : Int) (c' : Option PV), b'.natAbs < 2 ^ 60 ∧ R.St (cx n) (.for (.one 5) (.seq (.idx (.var 0) (.cst (.str (Str.ofString "cells"))))) bCell) (m6 (some (.int p)) (some (.int tu)) (some f) (some (.int b)) c) (sto gs cs r k) (.nx (m6 (some (.int p)) (some (.int tu)) (some f) (some (.int b')) c')) (sto gs cs r k) := by
  have q := R.forI (ok := fun S' => stays S' (cs.map .int, none)) (body := fun σ' S' => evSs (cx n) bCell σ' S') (tg := .one 5)
    (fun q σ S => ∃ (l : List Int) (b : Int) (c : Option PV), q = l.map .int ∧ σ = m6 (some (.int p)) (some (.int tu)) (some f) (some (.int b)) c ∧ S = sto gs cs r k ∧ b.natAbs < 2 ^ 60)
    (fun _ _ => False) (fun _ _ _ _ => rfl)
    (fun a q σ S ⟨l, b, c, e1, e2, e3, e4⟩ => by
      subst e2 e3
      cases l with
      | nil => simp at e1
      | cons z l =>
        rw [List.map_cons] at e1
        injection e1 with e1a e1
        subst e1a
        have hm := small_mod (a := b * 48271 + z + tu) hp hp2
        have mm : binV .mul (.int b) (.int 48271) = some (.int (b * 48271)) := bin_mul (Nat.lt_trans e4 (by decide)) (by decide)
        refine ⟨_, rfl, .inl ⟨_, _, .inl (R.ssC (R.asg (R.bin (R.bi (R.bin (R.bin (R.bin (R.var rfl) R.cst mm) (R.var rfl) rfl) (R.var rfl) rfl) rfl) (R.var rfl) (bin_mod hp))) R.ssN), l, _, _, e1, rfl, rfl, Nat.lt_trans hm (by decide)⟩⟩)
    (cs.map .int) (m6 (some (.int p)) (some (.int tu)) (some f) (some (.int b)) c) (sto gs cs r k) ⟨cs, b, c, rfl, rfl, rfl, hb⟩
  rcases q with ⟨σ2, S2, e, l, b', c', _, e2, e3, e4⟩ | ⟨_, _, _, z⟩
  · subst e2 e3
    exact ⟨b', c', e4, R.for_ (w := (cs.map .int, none)) (R.seq (v := .lst (cs.map .int)) (R.idx (R.var rfl) R.cst (ix lk_c)) rfl) e⟩
  · exact z.elim
def bPrime : ISs := (.cons (.asg 4 (.bin .add (.bin .mul (.cst (.int 69621)) (.var 2)) (.bin .fdiv (.var 1) (.cst (.int 41)))))
    (.cons (.for (.one 5) (.seq (.idx (.var 0) (.cst (.str (Str.ofString "cells"))))) bCell)
    (.cons (.asg 3 (.bin .add (.bin .mul (.var 3) (.cst (.int 2147483659))) (.bin .mod (.bi .int (.bin .pow (.var 4) (.cst (.int 5)))) (.var 1))))
    .nil)))
theorem prime_step {n : Nat} {gs cs : List Int} {r : Int} {k m : Nat} {p f : Int} {b c : Option PV} (hp : 41 ≤ p) (hp2 : p ≤ 2 ^ 31) (hf : f.natAbs < 2 ^ 150) (hm : m ≤ 1000000) :
    ∃ (f' : Int) (b' c' : Option PV), f'.natAbs ≤ f.natAbs * 2147483659 + 2 ^ 31 ∧ R.Ss (cx n) bPrime (m6 (some (.int p)) (some (.int (m : Int))) (some (.int f)) b c) (sto gs cs r k) (.nx (m6 (some (.int p)) (some (.int (m : Int))) (some (.int f')) b' c')) (sto gs cs r k) := by
  have d1 : binV .fdiv (.int p) (.int 41) = some (.int (p / 41)) := bin_fdiv (by decide) (by decide)
  have d2 : binV .mul (.int 69621) (.int (m : Int)) = some (.int (69621 * (m : Int))) := bin_mul (by decide) (by
    have : ((m : Int)).natAbs = m := rfl
    rw [this]
    exact Nat.lt_of_le_of_lt hm (by decide))
  have hb0 : (69621 * (m : Int) + p / 41).natAbs < 2 ^ 60 := by
    have h1 : 0 ≤ p / 41 := by omega
    have h2 : p / 41 ≤ p := by omega
    omega
  obtain ⟨b', c', g1, g2⟩ := cell_loop (n := n) (gs := gs) (cs := cs) (r := r) (k := k) (p := p) (tu := (m : Int)) (b := 69621 * (m : Int) + p / 41) (f := .int f) (c := c) (by omega) hp2 hb0
  have pw : binV .pow (.int b') (.int 5) = some (.int (b' ^ 5)) := by
    show (if (0 : Int) ≤ 5 ∧ (5 : Int) ≤ 1000000 ∧ b'.natAbs < 2 ^ 64 then some (PV.int (b' ^ (5 : Int).toNat)) else none) = _
    rw [if_pos ⟨by decide, by decide, Nat.lt_trans g1 (by decide)⟩]
    rfl
  have mm : binV .mul (.int f) (.int 2147483659) = some (.int (f * 2147483659)) := bin_mul (Nat.lt_trans hf (by decide)) (by decide)
  have sm := small_mod (a := b' ^ 5) (p := p) (by omega) hp2
  refine ⟨f * 2147483659 + b' ^ 5 % p, some (.int b'), c', ?_, R.ssC (R.asg (R.bin (R.bin R.cst (R.var rfl) d2) (R.bin (R.var rfl) R.cst d1) rfl)) (R.ssC g2 (R.ssC (R.asg (R.bin (R.bin (R.var rfl) R.cst mm) (R.bin (R.bi (R.bin (R.var rfl) R.cst pw) rfl) (R.var rfl) (bin_mod (by omega))) rfl)) R.ssN))⟩
  generalize b' ^ 5 % p = y at sm ⊢
  omega
def bnd : Nat → Nat
  | 4 => 0
  | 3 => 2 ^ 32
  | 2 => 2 ^ 64
  | 1 => 2 ^ 96
  | _ => 2 ^ 128
theorem bnd_step : ∀ j f : Nat, j < 4 → f ≤ bnd (j + 1) → f * 2147483659 + 2 ^ 31 ≤ bnd j
  | 0, f, _, h => by simp only [bnd] at h ⊢; omega
  | 1, f, _, h => by simp only [bnd] at h ⊢; omega
  | 2, f, _, h => by simp only [bnd] at h ⊢; omega
  | 3, f, _, h => by simp only [bnd] at h ⊢; omega
  | n + 4, f, h, _ => by omega
theorem bnd_le : ∀ j : Nat, bnd j ≤ 2 ^ 128
  | 0 => by decide
  | 1 => by decide
  | 2 => by decide
  | 3 => by decide
  | 4 => by decide
  | n + 5 => by simp [bnd]
def primes : List Int := [2147483629, 2147483587, 2147483579, 2147483563]
theorem mixed_ok {n : Nat} {gs cs : List Int} {r : Int} {k : Nat} (hk : k < 1000000) : ∃ f : Int, evF P0 (n + 1) 9 [.ref 1] (sto gs cs r k) = .ok (.int f) (sto gs cs r (k + 1)) := by
  have q := R.forI (ok := fun S' => stays S' (primes.map .int, none)) (body := fun σ' S' => evSs (cx n) bPrime σ' S') (tg := .one 1)
    (fun q σ S => ∃ (l : List Int) (p b c : Option PV) (f : Int), q = l.map .int ∧ σ = m6 p (some (.int ((k + 1 : Nat) : Int))) (some (.int f)) b c ∧ S = sto gs cs r (k + 1) ∧ f.natAbs ≤ bnd l.length ∧ l.length ≤ 4 ∧ ∀ p ∈ l, 41 ≤ p ∧ p ≤ 2 ^ 31)
    (fun _ _ => False) (fun _ _ _ _ => rfl)
    (fun a q σ S ⟨l, p, b, c, f, e1, e2, e3, e4, e5, e6⟩ => by
      subst e2 e3
      cases l with
      | nil => simp at e1
      | cons z l =>
        rw [List.map_cons] at e1
        injection e1 with e1a e1
        subst e1a
        simp only [List.length_cons] at e4 e5
        have hz := e6 z (by simp)
        have bl := bnd_le (l.length + 1)
        obtain ⟨f', b', c', g1, g2⟩ := prime_step (n := n) (gs := gs) (cs := cs) (r := r) (k := k + 1) (m := k + 1) (p := z) (f := f) (b := b) (c := c) hz.1 hz.2 (Nat.lt_of_le_of_lt (Nat.le_trans e4 bl) (by decide)) (by omega)
        refine ⟨_, rfl, .inl ⟨_, _, .inl g2, l, _, b', c', f', e1, rfl, rfl, Nat.le_trans g1 (bnd_step _ _ (by omega) e4), by omega, fun y hy => e6 y (List.mem_cons_of_mem _ hy)⟩⟩)
    (primes.map .int) (m6 none (some (.int ((k + 1 : Nat) : Int))) (some (.int 0)) none none) (sto gs cs r (k + 1)) ⟨primes, none, none, none, 0, rfl, rfl, rfl, by decide, by decide, by decide⟩
  rcases q with ⟨σ2, S2, e, l, p, b, c, f, _, e2, e3, _⟩ | ⟨_, _, _, z⟩
  · subst e2 e3
    refine ⟨f, ?_⟩
    rw [evF_mut (d := ⟨1, 6, false, b__law_mixed⟩) rfl rfl]
    have s1 : R.St (cx n) (.par [2, 3] (.cons (.bin .add (.idx (.var 0) (.cst (.str (Str.ofString "turn")))) (.cst (.int 1))) (.cons (.cst (.int 0)) .nil))) (m6 none none none none none) (sto gs cs r k) (.nx (m6 none (some (.int ((k + 1 : Nat) : Int))) (some (.int 0)) none none)) (sto gs cs r k) :=
      R.par (vs := [.int ((k + 1 : Nat) : Int), .int 0]) (R.cons (R.bin (R.idx (R.var rfl) R.cst (ix lk_t)) R.cst rfl) (R.cons R.cst R.nil)) rfl
    have s2 : R.St (cx n) (.sub (.var 0) (.cst (.str (Str.ofString "turn"))) (.var 2)) (m6 none (some (.int ((k + 1 : Nat) : Int))) (some (.int 0)) none none) (sto gs cs r k) (.nx (m6 none (some (.int ((k + 1 : Nat) : Int))) (some (.int 0)) none none)) (sto gs cs r (k + 1)) :=
      R.sub (R.var rfl) (R.var rfl) R.cst sub_t
    have sq : evSrc (cx n) (.seq (.lst false (.cons (.cst (.int 2147483629)) (.cons (.cst (.int 2147483587)) (.cons (.cst (.int 2147483579)) (.cons (.cst (.int 2147483563)) .nil)))))) (m6 none (some (.int ((k + 1 : Nat) : Int))) (some (.int 0)) none none) (sto gs cs r (k + 1)) = .ok (primes.map .int, none) (sto gs cs r (k + 1)) :=
      R.seq (v := .lst (primes.map .int)) (R.lstF (R.cons R.cst (R.cons R.cst (R.cons R.cst (R.cons R.cst R.nil))))) rfl
    exact R.run rfl (R.ssC s1 (R.ssC s2 (R.ssC (R.for_ sq e) (R.ssR (R.ret (R.var rfl))))))
  · exact z.elim
end Ev.K88

set_option Elab.async false
set_option linter.all false
set_option maxRecDepth 100000
set_option maxHeartbeats 1000000
/-! k88: the draws, used -/
namespace Ev.K88
open PySem L2 Ev PyProof.Rows
theorem okVs_ints : ∀ l : List Int, okVs (l.map .int) = true
  | [] => rfl
  | z :: r => by simp only [List.map_cons, okVs, okV, okVs_ints r, Bool.and_self]
theorem noRefs_ints (l : List Int) : noRefs (l.map .int) = true := (okVs_pd _ (okVs_ints l)).elim fun _ q => q.2.2.2
abbrev w3 (room : Int) (x : Option PV) : Sl := [some (.ref 1), some (.int room), x]
theorem draw_ok {n t : Nat} {S : Sto} {room : Int} (h : StV t S) (ht : t < 1000000) (h0 : 0 < room) (h2 : room.natAbs < 2 ^ 200) : ∃ (m : Int) (S' : Sto), evF P0 (n + 2) 10 [.ref 1, .int room] S = .ok (.int m) S' ∧ 0 ≤ m ∧ m < room ∧ StV (t + 1) S' := by
  obtain ⟨gs, cs, r, k, rfl, hg, hc, hk⟩ := h
  have rest : ∀ {gs cs : List Int} {r : Int} {k : Nat} {x : Option PV}, R.E (cx (n + 1)) (.idx (.var 0) (.cst (.str (Str.ofString "rest")))) (w3 room x) (sto gs cs r k) (.int r) (sto gs cs r k) := R.idx (R.var rfl) R.cst (ix lk_r)
  have great : ∀ {gs cs : List Int} {r : Int} {k : Nat} {x : Option PV}, R.E (cx (n + 1)) (.idx (.var 0) (.cst (.str (Str.ofString "great")))) (w3 room x) (sto gs cs r k) (.ref 0) (sto gs cs r k) := R.idx (R.var rfl) R.cst (ix lk_g)
  -- the rest filled
  have fill : ∃ (gs' : List Int) (r' : Int) (k' : Nat), gs'.length ≤ 63 ∧ k' ≤ t + 1 ∧ R.St (cx (n + 1)) (.ifs (.cmp .eq (.idx (.var 0) (.cst (.str (Str.ofString "rest")))) (.cst (.int 0))) (.cons (.sub (.var 0) (.cst (.str (Str.ofString "rest"))) (.ife (.cmp .ne (.idx (.var 0) (.cst (.str (Str.ofString "great")))) (.lst false .nil)) (.meth .popAt (.idx (.var 0) (.cst (.str (Str.ofString "great")))) (.cons (.cst (.int 0)) .nil)) (.call 9 (.cons (.var 0) .nil))))
    .nil) .nil) (w3 room none) (sto gs cs r k) (.nx (w3 room none)) (sto gs' cs r' k') := by
    have ce : R.E (cx (n + 1)) (.cmp .eq (.idx (.var 0) (.cst (.str (Str.ofString "rest")))) (.cst (.int 0))) (w3 room none) (sto gs cs r k) (.bl (r == 0)) (sto gs cs r k) := by
      refine R.cmp rest R.cst ?_
      rw [cmp_eq, eqV2_ok rfl rfl (by simp [dp])]
      rfl
    cases hr : (r == 0) with
    | false =>
      rw [hr] at ce
      exact ⟨gs, r, k, hg, by omega, R.ifs ce (fun z => nomatch z) fun _ => R.ssN⟩
    | true =>
      rw [hr] at ce
      have cn : R.E (cx (n + 1)) (.cmp .ne (.idx (.var 0) (.cst (.str (Str.ofString "great")))) (.lst false .nil)) (w3 room none) (sto gs cs r k) (.bl !gs.isEmpty) (sto gs cs r k) := by
        refine R.cmp great (R.lstF R.nil) ?_
        rw [cmp_ne, eqV2_fr (frz_ref (n := 0) rfl (noRefs_ints gs)) (frzV_self rfl) (by simpa [okV] using okVs_ints gs) rfl (by simp [dp, dps]), bqV_nil]
        cases gs <;> rfl
      cases gs with
      | nil =>
        obtain ⟨f, hf⟩ := mixed_ok (n := n) (gs := []) (cs := cs) (r := r) (k := k) (by omega)
        exact ⟨[], f, k + 1, by simp, by omega, R.ifs ce (fun _ => R.ssC (R.sub (R.ife (p := false) cn (fun z => nomatch z) fun _ => R.call (R.cons (R.var rfl) R.nil) hf) (R.var rfl) R.cst sub_r) R.ssN) fun z => nomatch z⟩
      | cons g gs =>
        have pp : R.E (cx (n + 1)) (.meth .popAt (.idx (.var 0) (.cst (.str (Str.ofString "great")))) (.cons (.cst (.int 0)) .nil)) (w3 room none) (sto (g :: gs) cs r k) (.int g) (sto gs cs r k) := by
          refine R.meth great rfl (R.cons R.cst R.nil) ?_
          show (if (0 : Int) ≤ 0 ∧ (0 : Int) < 2 ^ 63 then (match (PV.int g :: gs.map PV.int)[(0 : Int).toNat]? with
            | some y => Rs.ok y ((sto (g :: gs) cs r k).set 0 (.lst ((PV.int g :: gs.map PV.int).eraseIdx (0 : Int).toNat)))
            | none => .bad) else .bad) = _
          rw [if_pos ⟨by decide, by decide⟩]
          rfl
        simp only [List.length_cons] at hg
        exact ⟨gs, g, k, by omega, by omega, R.ifs ce (fun _ => R.ssC (R.sub (R.ife (p := true) cn (fun _ => pp) fun z => nomatch z) (R.var rfl) R.cst sub_r) R.ssN) fun z => nomatch z⟩
  obtain ⟨gs', r', k', hg', hk', f1⟩ := fill
  have f2 : R.St (cx (n + 1)) (.asg 2 (.bin .mod (.bi .int (.idx (.var 0) (.cst (.str (Str.ofString "rest"))))) (.var 1))) (w3 room none) (sto gs' cs r' k') (.nx (w3 room (some (.int (r' % room))))) (sto gs' cs r' k') := R.asg (R.bin (R.bi rest rfl) (R.var rfl) (bin_mod h0))
  have f3 : R.St (cx (n + 1)) (.sub (.var 0) (.cst (.str (Str.ofString "rest"))) (.bin .fdiv (.idx (.var 0) (.cst (.str (Str.ofString "rest")))) (.var 1))) (w3 room (some (.int (r' % room)))) (sto gs' cs r' k') (.nx (w3 room (some (.int (r' % room))))) (sto gs' cs (r' / room) k') := R.sub (R.bin rest (R.var rfl) (bin_fdiv h0 h2)) (R.var rfl) R.cst sub_r
  refine ⟨r' % room, sto gs' cs (r' / room) k', ?_, Int.emod_nonneg _ (Int.ne_of_gt h0), Int.emod_lt_of_pos _ h0, gs', cs, _, k', rfl, hg', hc, hk'⟩
  rw [evF_mut (d := ⟨2, 3, false, b__law_draw⟩) rfl rfl]
  exact R.run rfl (R.ssC f1 (R.ssC f2 (R.ssC f3 (R.ssR (R.ret (R.var rfl))))))
theorem pick_ok {n t : Nat} {S : Sto} {l : List PV} (h : StV t S) (ht : t < 1000000) (hl : 1 ≤ l.length) (hl2 : l.length ≤ 1000) : ∃ (v : PV) (S' : Sto), evF P0 (n + 3) 11 [.ref 1, .lst l] S = .ok v S' ∧ v ∈ l ∧ StV (t + 1) S' := by
  obtain ⟨m, S', e, m0, m1, hs⟩ := draw_ok (n := n) (room := (l.length : Int)) h ht (by omega) (by
    show l.length < 2 ^ 200
    exact Nat.lt_of_le_of_lt hl2 (by decide))
  have hm : m.toNat < l.length := by omega
  refine ⟨l[m.toNat], S', ?_, List.getElem_mem hm, hs⟩
  rw [evF_mut (d := ⟨2, 2, false, b__law_pick⟩) rfl rfl]
  refine R.run rfl (R.ssR (R.ret (R.idx (x := .lst l) (y := .int m) (R.var rfl) (R.call (R.cons (R.var rfl) (R.cons (R.bi (R.var rfl) rfl) R.nil)) e) ?_)))
  show atP l m = _
  unfold atP
  rw [if_pos m0]
  exact List.getElem?_eq_getElem hm
/-- a comprehension whose turns draw -/
theorem lc_draw {ok : Sto → Bool} {elt : Sl → Sto → Rs PV} {test : Sl → Sto → Rs Bool} {tg : Tg} {σ : Sl} {P : PV → Prop} {K T : Nat} (hok : ∀ S, ok S = true) : ∀ (l acc : List PV) (S : Sto) (t : Nat), (∀ x ∈ l, ∃ σ', setTg tg x σ = some σ' ∧ (∀ S, test σ' S = .ok true S) ∧ ∀ t S, StV t S → t + K ≤ T → ∃ v S', elt σ' S = .ok v S' ∧ P v ∧ StV (t + K) S') → acc.length + l.length ≤ 1000 → t + l.length * K ≤ T → StV t S →
    ∃ vs S', lcGo ok elt test tg σ l S acc = .ok (acc.reverse ++ vs) S' ∧ vs.length = l.length ∧ (∀ v ∈ vs, P v) ∧ StV (t + l.length * K) S'
  | [], acc, S, t, _, _, _, hs => ⟨[], S, by unfold lcGo; rw [if_pos (hok S), List.append_nil], rfl, by simp, by simpa using hs⟩
  | x :: r, acc, S, t, h, hl, hT, hs => by
    simp only [List.length_cons] at hl hT
    have eK : (r.length + 1) * K = r.length * K + K := Nat.succ_mul _ _
    obtain ⟨σ', e1, e2, e3⟩ := h x (by simp)
    obtain ⟨v, S1, f1, f2, f3⟩ := e3 t S hs (by omega)
    obtain ⟨vs, S2, g1, g2, g3, g4⟩ := lc_draw (K := K) (T := T) (P := P) (elt := elt) (test := test) (tg := tg) (σ := σ) hok r (v :: acc) S1 (t + K) (fun y hy => h y (List.mem_cons_of_mem _ hy)) (by simp only [List.length_cons]; omega) (by omega) f3
    refine ⟨v :: vs, S2, ?_, by simp [g2], fun y hy => ?_, g4.mono (by simp only [List.length_cons]; omega)⟩
    · unfold lcGo
      rw [hok]
      simp only [Bool.not_true, Bool.false_eq_true, if_false]
      rw [e1]
      dsimp only
      rw [e2]
      dsimp only
      rw [if_pos rfl, f1]
      dsimp only
      rw [if_pos (by omega), g1]
      simp
    · rcases List.mem_cons.mp hy with rfl | hy
      · exact f2
      · exact g3 y hy
def bK : Nat → Nat
  | 0 => 2
  | d + 1 => 2 + 3 * bK d
abbrev w4 (d : Int) (x y : Option PV) : Sl := [some (.ref 1), some (.int d), x, y]
def lWords : List PV := [.str (Str.ofString "a"), .str (Str.ofString "on"), .str (Str.ofString "zz"), .str (Str.ofString "entry"), .str (Str.ofString "abcdefghijklm")]
def lInts : List PV := [.int 0, .int 1, .int (0 - 1), .int 7, .int (0 - 42), .int 999999999999, .int (0 - 999999999999)]
theorem words_dv : ∀ v ∈ lWords, dv v = true ∧ leafV v = true := by
  have h : (lWords.all fun v => dv v && leafV v) = true := by decide +kernel
  intro v hv
  exact Bool.and_eq_true_iff.mp (List.all_eq_true.mp h v hv)
theorem ints_dv : ∀ v ∈ lInts, dv v = true ∧ leafV v = true := by
  have h : (lInts.all fun v => dv v && leafV v) = true := by decide +kernel
  intro v hv
  exact Bool.and_eq_true_iff.mp (List.all_eq_true.mp h v hv)
theorem bK_le : ∀ d, 2 ≤ bK d
  | 0 => Nat.le_refl _
  | d + 1 => by simp only [bK]; omega
theorem eq_int {n : Nat} {d m : Int} {y : Option PV} {S : Sto} {c : Int} : R.E (cx n) (.cmp .eq (.var 2) (.cst (.int c))) (w4 d (some (.int m)) y) S (.bl (m == c)) S := by
  refine R.cmp (R.var rfl) R.cst ?_
  rw [cmp_eq, eqV2_ok rfl rfl (by simp [dp])]
  rfl
theorem some_ok : ∀ (d n t : Nat) (S : Sto), StV t S → t + bK d ≤ 1000000 → ∃ (v : PV) (S' : Sto), evF P0 (n + 4 + d) 15 [.ref 1, .int (d : Int)] S = .ok v S' ∧ Dr d v ∧ StV (t + bK d) S' := by
  intro d
  induction d with
  | zero =>
    intro n t S hs ht
    simp only [bK] at ht ⊢
    obtain ⟨m, S1, e1, m0, m1, hs1⟩ := draw_ok (n := n + 1) (room := 3) hs (by omega) (by decide) (by decide)
    have s1 : R.St (cx (n + 3)) (.asg 2 (.ife (.cmp .gt (.var 1) (.cst (.int 0))) (.call 10 (.cons (.var 0) (.cons (.cst (.int 6)) .nil))) (.call 10 (.cons (.var 0) (.cons (.cst (.int 3)) .nil))))) (w4 0 none none) S (.nx (w4 0 (some (.int m)) none)) S1 :=
      R.asg (R.ife (p := false) (R.cmp (R.var rfl) R.cst rfl) (fun z => nomatch z) fun _ => R.call (R.cons (R.var rfl) (R.cons R.cst R.nil)) e1)
    have fin : ∀ {v : PV} {S' : Sto}, R.Ss (cx (n + 3)) b__law_some_value (w4 0 none none) S (.rt v) S' → evF P0 (n + 4 + 0) 15 [.ref 1, .int ((0 : Nat) : Int)] S = .ok v S' := fun {v S'} h => by
      show evF P0 (n + 3 + 1) 15 [.ref 1, .int ((0 : Nat) : Int)] S = _
      rw [evF_mut (d := ⟨2, 4, false, b__law_some_value⟩) rfl rfl]
      exact R.run rfl h
    have q0 := eq_int (n := n + 3) (d := 0) (m := m) (y := none) (S := S1) (c := 0)
    have q1 := eq_int (n := n + 3) (d := 0) (m := m) (y := none) (S := S1) (c := 1)
    have q2 := eq_int (n := n + 3) (d := 0) (m := m) (y := none) (S := S1) (c := 2)
    have hm : m = 0 ∨ m = 1 ∨ m = 2 := by omega
    rcases hm with rfl | rfl | rfl
    · obtain ⟨v, S2, e2, hv, hs2⟩ := pick_ok (n := n) (l := lWords) hs1 (by omega) (by decide) (by decide)
      have dvv := words_dv v hv
      exact ⟨v, S2, fin (R.ssC s1 (R.ssR (R.ifs (p := true) q0 (fun _ => R.ssR (R.ret (R.call (R.cons (R.var rfl) (R.cons (R.lstF (R.cons R.cst (R.cons R.cst (R.cons R.cst (R.cons R.cst (R.cons R.cst R.nil)))))) R.nil)) e2))) fun z => nomatch z))), dvv, hs2⟩
    · obtain ⟨v, S2, e2, hv, hs2⟩ := pick_ok (n := n) (l := lInts) hs1 (by omega) (by decide) (by decide)
      have dvv := ints_dv v hv
      exact ⟨v, S2, fin (R.ssC s1 (R.ssC (R.ifs (p := false) q0 (fun z => nomatch z) fun _ => R.ssN) (R.ssR (R.ifs (p := true) q1 (fun _ => R.ssR (R.ret (R.call (R.cons (R.var rfl) (R.cons (R.lstF (R.cons R.cst (R.cons R.cst (R.cons (R.bin R.cst R.cst rfl) (R.cons R.cst (R.cons (R.bin R.cst R.cst rfl) (R.cons R.cst (R.cons (R.bin R.cst R.cst rfl) R.nil)))))))) R.nil)) e2))) fun z => nomatch z)))), dvv, hs2⟩
    · exact ⟨.non, S1, fin (R.ssC s1 (R.ssC (R.ifs (p := false) q0 (fun z => nomatch z) fun _ => R.ssN) (R.ssC (R.ifs (p := false) q1 (fun z => nomatch z) fun _ => R.ssN) (R.ssR (R.ifs (p := true) q2 (fun _ => R.ssR (R.ret R.cst)) fun z => nomatch z))))), ⟨rfl, rfl⟩, hs1.mono (by omega)⟩
  | succ d ih =>
    intro n t S hs ht
    have hk := bK_le d
    have hk2 : bK (d + 1) = 2 + 3 * bK d := rfl
    rw [hk2] at ht ⊢
    obtain ⟨m, S1, e1, m0, m1, hs1⟩ := draw_ok (n := n + 2 + d) (room := 6) hs (by omega) (by decide) (by decide)
    have gt : R.E (cx (n + 4 + d)) (.cmp .gt (.var 1) (.cst (.int 0))) (w4 ((d + 1 : Nat) : Int) none none) S (.bl true) S := by
      refine R.cmp (R.var rfl) R.cst ?_
      show some (decide ((0 : Int) < ((d + 1 : Nat) : Int))) = some true
      rw [decide_eq_true (by omega)]
    have s1 : R.St (cx (n + 4 + d)) (.asg 2 (.ife (.cmp .gt (.var 1) (.cst (.int 0))) (.call 10 (.cons (.var 0) (.cons (.cst (.int 6)) .nil))) (.call 10 (.cons (.var 0) (.cons (.cst (.int 3)) .nil))))) (w4 ((d + 1 : Nat) : Int) none none) S (.nx (w4 ((d + 1 : Nat) : Int) (some (.int m)) none)) S1 :=
      R.asg (R.ife (p := true) gt (fun _ => R.call (R.cons (R.var rfl) (R.cons R.cst R.nil)) (by rw [show n + 4 + d = n + 2 + d + 2 by omega]; exact e1)) fun z => nomatch z)
    have fin : ∀ {v : PV} {S' : Sto}, R.Ss (cx (n + 4 + d)) b__law_some_value (w4 ((d + 1 : Nat) : Int) none none) S (.rt v) S' → evF P0 (n + 4 + (d + 1)) 15 [.ref 1, .int ((d + 1 : Nat) : Int)] S = .ok v S' := fun {v S'} h => by
      show evF P0 (n + 4 + d + 1) 15 [.ref 1, .int ((d + 1 : Nat) : Int)] S = _
      rw [evF_mut (d := ⟨2, 4, false, b__law_some_value⟩) rfl rfl]
      exact R.run rfl h
    have q0 := eq_int (n := n + 4 + d) (d := ((d + 1 : Nat) : Int)) (m := m) (y := none) (S := S1) (c := 0)
    have q1 := eq_int (n := n + 4 + d) (d := ((d + 1 : Nat) : Int)) (m := m) (y := none) (S := S1) (c := 1)
    have q2 := eq_int (n := n + 4 + d) (d := ((d + 1 : Nat) : Int)) (m := m) (y := none) (S := S1) (c := 2)
    cases b0 : (m == 0) with
    | true =>
      rw [b0] at q0
      obtain ⟨v, S2, e2, hv, hs2⟩ := pick_ok (n := n + 1 + d) (l := lWords) hs1 (by omega) (by decide) (by decide)
      have dvv := words_dv v hv
      exact ⟨v, S2, fin (R.ssC s1 (R.ssR (R.ifs (p := true) q0 (fun _ => R.ssR (R.ret (R.call (R.cons (R.var rfl) (R.cons (R.lstF (R.cons R.cst (R.cons R.cst (R.cons R.cst (R.cons R.cst (R.cons R.cst R.nil)))))) R.nil)) (by rw [show n + 4 + d = n + 1 + d + 3 by omega]; exact e2)))) fun z => nomatch z))), .inl dvv, hs2.mono (by omega)⟩
    | false =>
      rw [b0] at q0
      cases b1 : (m == 1) with
      | true =>
        rw [b1] at q1
        obtain ⟨v, S2, e2, hv, hs2⟩ := pick_ok (n := n + 1 + d) (l := lInts) hs1 (by omega) (by decide) (by decide)
        have dvv := ints_dv v hv
        exact ⟨v, S2, fin (R.ssC s1 (R.ssC (R.ifs (p := false) q0 (fun z => nomatch z) fun _ => R.ssN) (R.ssR (R.ifs (p := true) q1 (fun _ => R.ssR (R.ret (R.call (R.cons (R.var rfl) (R.cons (R.lstF (R.cons R.cst (R.cons R.cst (R.cons (R.bin R.cst R.cst rfl) (R.cons R.cst (R.cons (R.bin R.cst R.cst rfl) (R.cons R.cst (R.cons (R.bin R.cst R.cst rfl) R.nil)))))))) R.nil)) (by rw [show n + 4 + d = n + 1 + d + 3 by omega]; exact e2)))) fun z => nomatch z)))), .inl dvv, hs2.mono (by omega)⟩
      | false =>
        rw [b1] at q1
        cases b2 : (m == 2) with
        | true =>
          rw [b2] at q2
          exact ⟨.non, S1, fin (R.ssC s1 (R.ssC (R.ifs (p := false) q0 (fun z => nomatch z) fun _ => R.ssN) (R.ssC (R.ifs (p := false) q1 (fun z => nomatch z) fun _ => R.ssN) (R.ssR (R.ifs (p := true) q2 (fun _ => R.ssR (R.ret R.cst)) fun z => nomatch z))))), .inl ⟨rfl, rfl⟩, hs1.mono (by omega)⟩
        | false =>
          rw [b2] at q2
          obtain ⟨j, S2, e2, j0, j1, hs2⟩ := draw_ok (n := n + 2 + d) (room := 4) hs1 (by omega) (by decide) (by decide)
          have hjl : (rngItems 0 j).length = j.toNat := by simp [rngItems]
          obtain ⟨vs, S3, g1, g2, g3, g4⟩ := lc_draw (ok := fun S' => stays S' (rngItems 0 j, none)) (elt := fun σ' S' => evE (cx (n + 4 + d)) (.call 15 (.cons (.var 0) (.cons (.bin .sub (.var 1) (.cst (.int 1))) .nil))) σ' S') (test := fun σ' S' => evIf (cx (n + 4 + d)) .none σ' S') (tg := .one 3) (σ := wipeP (w4 ((d + 1 : Nat) : Int) (some (.int m)) none) [3]) (P := Dr d) (K := bK d) (T := 1000000) (fun _ => rfl)
            (rngItems 0 j) [] S2 (t + 1 + 1) (fun x hx => ⟨_, rfl, fun S => by simp only [evIf], fun t' S' hs' ht' => by
              obtain ⟨v, S4, f1, f2, f3⟩ := ih n t' S' hs' ht'
              refine ⟨v, S4, R.call (R.cons (R.var rfl) (R.cons (R.bin (R.var rfl) R.cst rfl) R.nil)) ?_, f2, f3⟩
              have e : (((d + 1 : Nat) : Int) - 1) = (d : Int) := by omega
              rw [e]
              exact f1⟩) (by simp only [List.length_nil]; omega) (by
              rw [hjl]
              have : j.toNat ≤ 3 := by omega
              have := Nat.mul_le_mul_right (bK d) this
              omega) hs2
          rw [List.reverse_nil, List.nil_append] at g1
          have sr : evSrc (cx (n + 4 + d)) (.rng (.call 10 (.cons (.var 0) (.cons (.cst (.int 4)) .nil)))) (w4 ((d + 1 : Nat) : Int) (some (.int m)) none) S1 = .ok (rngItems 0 j, none) S2 := R.rng (R.call (R.cons (R.var rfl) (R.cons R.cst R.nil)) (by rw [show n + 4 + d = n + 2 + d + 2 by omega]; exact e2)) (by
            unfold rngOk
            exact decide_eq_true ⟨by decide, by decide, by omega, by omega⟩)
          refine ⟨.tup vs, S3, fin (R.ssC s1 (R.ssC (R.ifs (p := false) q0 (fun z => nomatch z) fun _ => R.ssN) (R.ssC (R.ifs (p := false) q1 (fun z => nomatch z) fun _ => R.ssN) (R.ssC (R.ifs (p := false) q2 (fun z => nomatch z) fun _ => R.ssN) (R.ssR (R.ret (R.bi (R.lc sr g1 rfl) rfl))))))), .inr ⟨vs, rfl, by omega, g3⟩, g4.mono ?_⟩
          rw [hjl]
          have : j.toNat ≤ 3 := by omega
          have := Nat.mul_le_mul_right (bK d) this
          omega
end Ev.K88

set_option Elab.async false
set_option linter.all false
set_option maxRecDepth 100000
set_option maxHeartbeats 1000000
/-! k88: the law's parts -/
namespace Ev.K88
open PySem L2 Ev PyProof.Rows
/-! ### the beginning -/
theorem lc_filt {ok : Sto → Bool} {elt : Sl → Sto → Rs PV} {test : Sl → Sto → Rs Bool} {tg : Tg} {σ : Sl} {S : Sto} {P : PV → Prop} (hok : ok S = true) : ∀ (l acc : List PV), (∀ x ∈ l, ∃ σ' b, setTg tg x σ = some σ' ∧ test σ' S = .ok b S ∧ ∃ v, elt σ' S = .ok v S ∧ P v) → acc.length + l.length ≤ 1000 → ∃ vs, lcGo ok elt test tg σ l S acc = .ok (acc.reverse ++ vs) S ∧ vs.length ≤ l.length ∧ ∀ v ∈ vs, P v
  | [], acc, _, _ => ⟨[], by unfold lcGo; rw [if_pos hok, List.append_nil], by simp, by simp⟩
  | x :: r, acc, h, hl => by
    simp only [List.length_cons] at hl
    obtain ⟨σ', b, e1, e2, v, e3, e4⟩ := h x (by simp)
    cases b with
    | false =>
      obtain ⟨vs, g1, g2, g3⟩ := lc_filt (elt := elt) (test := test) (tg := tg) (σ := σ) (P := P) hok r acc (fun y hy => h y (List.mem_cons_of_mem _ hy)) (by omega)
      refine ⟨vs, ?_, by simp only [List.length_cons]; omega, g3⟩
      unfold lcGo
      rw [hok]
      simp only [Bool.not_true, Bool.false_eq_true, if_false]
      rw [e1]
      dsimp only
      rw [e2]
      exact g1
    | true =>
      obtain ⟨vs, g1, g2, g3⟩ := lc_filt (elt := elt) (test := test) (tg := tg) (σ := σ) (P := P) hok r (v :: acc) (fun y hy => h y (List.mem_cons_of_mem _ hy)) (by simp only [List.length_cons]; omega)
      refine ⟨v :: vs, ?_, by simp only [List.length_cons]; omega, fun y hy => ?_⟩
      · unfold lcGo
        rw [hok]
        simp only [Bool.not_true, Bool.false_eq_true, if_false]
        rw [e1]
        dsimp only
        rw [e2]
        dsimp only
        rw [if_pos rfl, e3]
        dsimp only
        rw [if_pos (by omega), g1]
        simp
      · rcases List.mem_cons.mp hy with rfl | hy
        · exact e4
        · exact g3 y hy
theorem ints_of : ∀ {vs : List PV}, (∀ v ∈ vs, ∃ i : Int, v = .int i) → ∃ gs : List Int, vs = gs.map .int
  | [], _ => ⟨[], rfl⟩
  | v :: r, h => by
    obtain ⟨i, rfl⟩ := h v (by simp)
    obtain ⟨gs, rfl⟩ := ints_of (vs := r) fun y hy => h y (List.mem_cons_of_mem _ hy)
    exact ⟨i :: gs, rfl⟩
theorem begun_ok {n : Nat} {zs : List Int} (hz : zs.length ≤ 63) : ∃ gs cs : List Int, evF P0 (n + 1) 8 [.lst (zs.map .int)] [] = .ok (.ref 1) (sto gs cs 0 0) ∧ gs.length ≤ 63 ∧ cs.length ≤ 63 := by
  let σ1 : Sl := [some (.lst (zs.map .int)), none, none]
  have absE : ∀ {σ : Sl} {S : Sto} {i : Int}, σ[2]? = some (some (.int i)) → R.E (cx n) (.bi .abs (.var 2)) σ S (.int (if i < 0 then -i else i)) S := fun h => R.bi (R.var h) rfl
  have powE : ∀ {σ : Sl} {S : Sto}, R.E (cx n) (.bin .pow (.cst (.int 10)) (.cst (.int 18))) σ S (.int ((10 : Int) ^ 18)) S := R.bin R.cst R.cst (by
    show (if (0 : Int) ≤ 18 ∧ (18 : Int) ≤ 1000000 ∧ (10 : Int).natAbs < 2 ^ 64 then some (PV.int ((10 : Int) ^ (18 : Int).toNat)) else none) = _
    rw [if_pos ⟨by decide, by decide, by decide⟩]
    rfl)
  obtain ⟨vs, g1, g2, g3⟩ := lc_filt (ok := fun S' => stays S' (zs.map .int, none)) (elt := fun σ' S' => evE (cx n) (.bin .sub (.bi .abs (.var 2)) (.bin .pow (.cst (.int 10)) (.cst (.int 18)))) σ' S') (test := fun σ' S' => evIf (cx n) (.some (.cmp .ge (.bi .abs (.var 2)) (.bin .pow (.cst (.int 10)) (.cst (.int 18))))) σ' S') (tg := .one 2) (σ := wipeP [some (.lst (zs.map .int)), none, none] [2]) (S := []) (P := fun v => ∃ i : Int, v = .int i) rfl
    (zs.map .int) [] (fun x hx => by
      obtain ⟨z, _, rfl⟩ := List.mem_map.mp hx
      have t := R.cmp (C := cx n) (op := .ge) (σ := [some (.lst (zs.map .int)), none, some (.int z)]) (S := []) (absE (i := z) rfl) powE rfl
      exact ⟨_, _, rfl, by simp only [evIf]; exact asB_of t, _, R.bin (absE (i := z) rfl) powE rfl, _, rfl⟩) (by simp; omega)
  rw [List.reverse_nil, List.nil_append] at g1
  obtain ⟨gs, rfl⟩ := ints_of g3
  have sq : ∀ {S : Sto} {x : Option PV}, evSrc (cx n) (.seq (.var 0)) [some (.lst (zs.map .int)), x, none] S = .ok (zs.map .int, none) S := fun {S x} => R.seq (v := .lst (zs.map .int)) (R.var rfl) rfl
  have s1 : R.St (cx n) (.asg 1 (.lc true [2] (.one 2) (.seq (.var 0)) (.some (.cmp .ge (.bi .abs (.var 2)) (.bin .pow (.cst (.int 10)) (.cst (.int 18))))) (.bin .sub (.bi .abs (.var 2)) (.bin .pow (.cst (.int 10)) (.cst (.int 18)))))) [some (.lst (zs.map .int)), none, none] [] (.nx [some (.lst (zs.map .int)), some (.ref 0), none]) [.lst (gs.map .int)] := R.asg (R.lc sq g1 rfl)
  have g4 := lc_all (ok := fun S' => stays S' (zs.map .int, none)) (elt := fun σ' S' => evE (cx n) (.bi .abs (.var 2)) σ' S') (test := fun σ' S' => evIf (cx n) .none σ' S') (tg := .one 2) (σ := wipeP [some (.lst (zs.map .int)), some (.ref 0), none] [2]) (S := [.lst (gs.map .int)]) (f := fun v => match v with | .int i => .int (if i < 0 then -i else i) | _ => .non) rfl
    (zs.map .int) [] (fun x hx => by
      obtain ⟨z, _, rfl⟩ := List.mem_map.mp hx
      exact ⟨_, rfl, by simp only [evIf], absE (i := z) rfl⟩) (by simp; omega)
  have e4 : ([] : List PV).reverse ++ (zs.map PV.int).map (fun v => match v with | .int i => PV.int (if i < 0 then -i else i) | _ => .non) = (zs.map fun i => if i < 0 then -i else i).map PV.int := by
    rw [List.reverse_nil, List.nil_append, List.map_map, List.map_map]
    exact List.map_congr_left fun c _ => rfl
  rw [e4] at g4
  refine ⟨gs, zs.map fun i => if i < 0 then -i else i, ?_, by simpa using Nat.le_trans g2 (by simpa using hz), by simpa using hz⟩
  rw [evF_mut (d := ⟨1, 3, false, b__law_begun⟩) rfl rfl]
  have kn : ([Str.ofString "great", Str.ofString "cells", Str.ofString "rest", Str.ofString "turn"] : List Str).Nodup := by decide +kernel
  refine R.run rfl (R.ssC s1 (R.ssR (R.ret (R.dict (S1 := [.lst (gs.map .int)]) (vs := [.ref 0, .lst ((zs.map fun i => if i < 0 then -i else i).map PV.int), .int 0, .int 0]) (R.cons (R.var rfl) (R.cons (R.lc sq g4 rfl) (R.cons R.cst (R.cons R.cst R.nil)))) ⟨rfl, by decide, kn⟩))))
/-! ### what is static -/
def nest : Nat → PV → PV
  | 0, v => v
  | n + 1, v => .tup [nest n v]
def aV : PV := .str (Str.ofString "a")
def cheB (n i : Nat) (v : PV) : Bool := noRef v && (match evF P0 n i [v] [] with
  | .ex 0 [.int 0] [] => true
  | _ => false)
def clB2 (n i : Nat) (vs : List PV) (u : PV) : Bool := noRefs vs && (match evF P0 n i vs [] with
  | .ok w [] => bqV w u
  | _ => false)
theorem cheB_ok {n i : Nat} {d : FnD} {v : PV} (hd : fns[i]? = some d) (hp : d.pure = true) (h : cheB (n + 1) i v = true) : Ce (n + 1) i [v] := by
  unfold cheB at h
  obtain ⟨h1, h2⟩ := Bool.and_eq_true_iff.mp h
  refine ce_run hd hp (by simpa [noRefs] using h1) ?_
  split at h2
  · rename_i e
    exact e
  · cases h2
theorem clB2_ok {n i : Nat} {d : FnD} {vs : List PV} {u : PV} (hd : fns[i]? = some d) (hp : d.pure = true) (h : clB2 (n + 1) i vs u = true) : Cl (n + 1) i vs u := by
  unfold clB2 at h
  obtain ⟨h1, h2⟩ := Bool.and_eq_true_iff.mp h
  split at h2
  · rename_i w e
    rw [bqV_eq _ _ h2] at e
    exact cl_run hd hp h1 e
  · cases h2
def things1 : List PV := [.str (Str.ofString "A"), .str (Str.ofString ""), .str (Str.ofString "a b"), .str (Str.ofString "a1"), .str (Str.ofString "-"), .int (10 ^ 12), .int (0 - 10 ^ 12), .bl true, .lst [.str (Str.ofString "a")], .tup [.str (Str.ofString "a"), .lst [.str (Str.ofString "b")]], .tup [.str (Str.ofString "a"), .str (Str.ofString "B")], nest 60 aV, .tup [.str (Str.ofString "a"), .bl true]]
def things2 : List PV := [.non, .int 5, .str (Str.ofString ""), .str (Str.ofString " "), .str (Str.ofString "A"), .str (Str.ofString "a b"), .str (Str.ofString "01"), .str (Str.ofString "-0"), .str (Str.ofString "--1"), .str (Str.ofString "+1"), .str (Str.ofString "1000000000000"), .str (Str.ofString "("), .str (Str.ofString ")"), .str (Str.ofString "(a"), .str (Str.ofString "a)"), .str (Str.ofString "(a))"), .str (Str.ofString "( a)"), .str (Str.ofString "(a )"), .str (Str.ofString "(a  b)"), .str (Str.ofString "()()"), .str (Str.ofString "(a)(b)"), .str (Str.ofString "a()"), .str (Str.ofString "1a"), .str (Str.ofString "a1"), .str (Str.ofString "- 1"), .str (Str.ofString "(-)-"), .str (Str.ofString "(a\nb)"), .str (Str.ofString "1/2")]
theorem stc1 : (things1.all (cheB 35 3)) = true := by decide +kernel
theorem stc2 : (things2.all (cheB 35 7)) = true := by decide +kernel
theorem stc3 : isV 60 [nest 59 aV] = true ∧ isV 60 [nest 60 aV] = false := by decide +kernel
theorem stc4 : clB2 35 16 [.int 60, aV] (nest 60 aV) = true ∧ clB2 35 16 [.int 59, aV] (nest 59 aV) = true := by decide +kernel
def lst59 (n : Nat) : List Nat := List.replicate n 40 ++ [97] ++ List.replicate n 41
theorem stc5 : txt (nest 59 aV) = lst59 59 ∧ txt (nest 60 aV) = lst59 60 := by decide +kernel
theorem stc6 : dv (nest 59 aV) = true ∧ dv (nest 60 aV) = true := by decide +kernel
theorem stc7 : nd (nest 59 aV) ≤ 100 ∧ nd (nest 60 aV) ≤ 100 := by decide +kernel
theorem sok59 : PyData.strOk (sOf (lst59 59)) = true ∧ PyData.strOk (sOf (lst59 60)) = true := by decide +kernel
theorem mul59 {n : Nat} (hn : n = 59 ∨ n = 60) : binV .mul (.str (Str.ofString "(")) (.int (n : Int)) = some (.str (sOf (List.replicate n 40))) ∧ binV .mul (.str (Str.ofString ")")) (.int (n : Int)) = some (.str (sOf (List.replicate n 41))) := by
  have e1 : Txt.mul (Str.ofString "(") 59 = sOf (List.replicate 59 40) := by decide +kernel
  have e2 : Txt.mul (Str.ofString ")") 59 = sOf (List.replicate 59 41) := by decide +kernel
  have e3 : Txt.mul (Str.ofString "(") 60 = sOf (List.replicate 60 40) := by decide +kernel
  have e4 : Txt.mul (Str.ofString ")") 60 = sOf (List.replicate 60 41) := by decide +kernel
  have l1 : (Str.ofString "(").length ≤ 1000 := by decide +kernel
  have l2 : (Str.ofString ")").length ≤ 1000 := by decide +kernel
  have go : ∀ {x y : Str} {m : Int}, 0 ≤ m → m ≤ 1000 → x.length ≤ 1000 → Txt.mul x m = y → binV .mul (.str x) (.int m) = some (.str y) := fun {x y m} a b c e => by
    show (if 0 ≤ m ∧ m ≤ 1000 ∧ x.length ≤ 1000 then some (Txt.mul x m) else none).map PV.str = _
    rw [if_pos ⟨a, b, c⟩, e]
    rfl
  rcases hn with rfl | rfl
  · exact ⟨go (by decide) (by decide) l1 e1, go (by decide) (by decide) l2 e2⟩
  · exact ⟨go (by decide) (by decide) l1 e3, go (by decide) (by decide) l2 e4⟩
def txE (n : Int) : IE := (.bin .add (.bin .add (.bin .mul (.cst (.str (Str.ofString "("))) (.cst (.int n))) (.cst (.str (Str.ofString "a")))) (.bin .mul (.cst (.str (Str.ofString ")"))) (.cst (.int n))))
theorem bin_add_str {a b : List Nat} (ha : a.length + b.length ≤ 16000000) : binV .add (.str (sOf a)) (.str (sOf b)) = some (.str (sOf (a ++ b))) := by
  show (if (sOf a).length + (sOf b).length ≤ 16000000 then some (PV.str (sOf a ++ sOf b)) else none) = _
  rw [sOf_len, sOf_len, if_pos ha, sOf_append]
theorem tx_ev {k n : Nat} {σ : Sl} {S : Sto} (hn : n = 59 ∨ n = 60) : R.E (cx k) (txE (n : Int)) σ S (.str (sOf (lst59 n))) S := by
  have m := mul59 hn
  have ea : Str.ofString "a" = sOf [97] := by decide +kernel
  unfold txE
  rw [ea]
  exact R.bin (R.bin (R.bin R.cst R.cst m.1) R.cst (bin_add_str (by rcases hn with rfl | rfl <;> decide))) (R.bin R.cst R.cst m.2) (bin_add_str (by rcases hn with rfl | rfl <;> decide))
end Ev.K88

set_option Elab.async false
set_option linter.all false
set_option maxRecDepth 100000
set_option maxHeartbeats 2000000
/-! k88: the law's body -/
namespace Ev.K88
open PySem L2 Ev PyProof.Rows
def told0 : PV := .tup [.str (Str.ofString "text"), .int 0]
def told0E : IE := (.tup (.cons (.cst (.str (Str.ofString "text"))) (.cons (.cst (.int 0)) .nil)))
theorem told0_ev {n : Nat} {σ : Sl} {S : Sto} : R.E (cx n) told0E σ S told0 S := R.tup (R.cons R.cst (R.cons R.cst R.nil))
theorem told0_ok : okV told0 = true ∧ dp told0 ≤ 100 := by decide +kernel
theorem wordCe {n i j : Nat} {v : PV} {σ : Sl} {S : Sto} (h : Ce n i [v]) (hj : σ[j]? = some (some v)) : R.E (cx n) (.word (.call i (.cons (.var j) .nil))) σ S told0 S :=
  R.wordEx (c := 0) (fs := [.int 0]) (R.callX (R.cons (R.var hj) R.nil) (h S)) rfl
theorem ne_told {n : Nat} {e : IE} {σ : Sl} {S : Sto} {v : PV} (h : R.E (cx n) e σ S v S) (hv : okV v = true) : R.E (cx n) (.cmp .ne e told0E) σ S (.bl !(bqV v told0)) S := by
  refine R.cmp h told0_ev ?_
  have t := told0_ok
  rw [cmp_ne, eqV2_ok hv t.1 (by omega)]
  rfl
theorem ne_told0 {n : Nat} {e : IE} {σ : Sl} {S : Sto} (h : R.E (cx n) e σ S told0 S) : R.E (cx n) (.cmp .ne e told0E) σ S (.bl false) S := by
  have q := ne_told h told0_ok.1
  rw [bqV_self] at q
  exact q
/-! ### the loops over static things -/
def bT (i : Nat) : ISs := (.cons (.ifs (.cmp .ne (.word (.call i (.cons (.var 2) .nil))) told0E) (.cons (.ret (.cst (.bl false)))
    .nil) .nil)
    .nil)
abbrev L11 (sc a2 a3 : Option PV) (a4 a5 a6 a7 a8 a9 a10 : Option PV) : Sl := [sc, some (.ref 1), a2, a3, a4, a5, a6, a7, a8, a9, a10]
theorem thing_loop {n i : Nat} {l : List PV} {S : Sto} {sc a2 a3 : Option PV} (h : ∀ v ∈ l, Ce n i [v]) :
    ∃ x, forGo (fun S' => stays S' (l, none)) (fun σ' S' => evSs (cx n) (bT i) σ' S') (.one 2) l (L11 sc a2 a3 none none none none none none none) S = .ok (.nx (L11 sc x a3 none none none none none none none)) S := by
  have q := R.forI (ok := fun S' => stays S' (l, none)) (body := fun σ' S' => evSs (cx n) (bT i) σ' S') (tg := .one 2)
    (fun r σ S' => ∃ x, σ = L11 sc x a3 none none none none none none none ∧ S' = S ∧ ∀ v ∈ r, Ce n i [v])
    (fun _ _ => False) (fun _ _ _ _ => rfl)
    (fun a r σ S' ⟨x, e1, e2, e3⟩ => by
      subst e1 e2
      exact ⟨_, rfl, .inl ⟨_, _, .inl (R.ssC (R.ifs (ne_told0 (wordCe (j := 2) (e3 a (by simp)) rfl)) (fun z => nomatch z) fun _ => R.ssN) R.ssN), some a, rfl, rfl, fun v hv => e3 v (List.mem_cons_of_mem _ hv)⟩⟩)
    l (L11 sc a2 a3 none none none none none none none) S ⟨a2, rfl, rfl, h⟩
  rcases q with ⟨σ2, S2, e, x, e1, e2, _⟩ | ⟨_, _, _, z⟩
  · subst e1 e2
    exact ⟨x, e⟩
  · exact z.elim
theorem ce1 : ∀ v ∈ things1, Ce 35 3 [v] := fun v hv => cheB_ok (n := 34) (d := ⟨1, 6, true, b_value_text⟩) rfl rfl (List.all_eq_true.mp stc1 v hv)
theorem ce2 : ∀ v ∈ things2, Ce 35 7 [v] := fun v hv => cheB_ok (n := 34) (d := ⟨1, 2, true, b_read_value⟩) rfl rfl (List.all_eq_true.mp stc2 v hv)
theorem cl60 : Cl 35 16 [.int 60, aV] (nest 60 aV) := clB2_ok (n := 34) (d := ⟨2, 3, true, b__law_nested⟩) rfl rfl stc4.1
theorem cl59 : Cl 35 16 [.int 59, aV] (nest 59 aV) := clB2_ok (n := 34) (d := ⟨2, 3, true, b__law_nested⟩) rfl rfl stc4.2
/-! ### the deepest -/
theorem sok_59 : SOk (sOf (lst59 59)) := ⟨sok59.1, by decide +kernel⟩
theorem sok_60 : SOk (sOf (lst59 60)) := ⟨sok59.2, by decide +kernel⟩
theorem vt59 : Cl 35 3 [nest 59 aV] (.str (sOf (lst59 59))) := by
  have hw := dv_wv _ stc6.1
  have hl := txt_len _ hw
  have hn := stc7.1
  have h := value_text_ok (n := 32) hw (by omega) (by omega) stc3.1
  rw [stc5.1] at h
  exact h
theorem rd59 : Cl 35 7 [.str (sOf (lst59 59))] (nest 59 aV) := by
  have hv := vo_whole stc6.1
  rw [stc5.1] at hv
  rcases read_any sok_59 with ⟨_, h⟩ | ⟨v, h1, h2, _⟩
  · refine absurd ⟨_, ?_, stc3.1, by rw [stc5.1]⟩ h
    rw [sOf_list]
    exact hv
  · rw [sOf_list, hv] at h2
    injection h2 with h2
    subst h2
    exact h1
theorem rd60 : Ce 35 7 [.str (sOf (lst59 60))] := by
  have hv := vo_whole stc6.2
  rw [stc5.2] at hv
  rcases read_any sok_60 with ⟨h, _⟩ | ⟨v, _, h2, _, _, _, h3⟩
  · exact h
  · rw [sOf_list, hv] at h2
    injection h2 with h2
    subst h2
    rw [stc3.2] at h3
    cases h3
theorem deep_of {V : PV} {T59 T60 : Str} {σ : Sl} {S : Sto} (hV : okV V = true) (hd : dp V ≤ 100) (vt : Cl 35 3 [V] (.str T59)) (rd : Cl 35 7 [.str T59] V) (rc : Ce 35 7 [.str T60]) (li : Cl 35 13 [.str T59, .str T59] (.bl true)) (t59 : R.E (cx 35) (txE 59) σ S (.str T59) S) (t60 : R.E (cx 35) (txE 60) σ S (.str T60) S) (h3 : σ[3]? = some (some V)) :
    R.E (cx 35) (.bor (.not (.call 13 (.cons (.call 3 (.cons (.var 3) .nil)) (.cons (txE 59) .nil)))) (.bor (.cmp .ne (.call 7 (.cons (txE 59) .nil)) (.var 3)) (.cmp .ne (.word (.call 7 (.cons (txE 60) .nil))) told0E))) σ S (.bl false) S := by
  have p1 : R.E (cx 35) (.not (.call 13 (.cons (.call 3 (.cons (.var 3) .nil)) (.cons (txE 59) .nil)))) σ S (.bl false) S := R.not (b := true) (R.call (R.cons (R.call (R.cons (R.var h3) R.nil) (vt S)) (R.cons t59 R.nil)) (li S))
  have p2 : R.E (cx 35) (.cmp .ne (.call 7 (.cons (txE 59) .nil)) (.var 3)) σ S (.bl false) S := by
    refine R.cmp (R.call (R.cons t59 R.nil) (rd S)) (R.var h3) ?_
    rw [cmp_ne, eqV2_ok hV hV (by omega), bqV_self]
    rfl
  have w60 : R.E (cx 35) (.word (.call 7 (.cons (txE 60) .nil))) σ S told0 S := R.wordEx (c := 0) (fs := [.int 0]) (R.callX (R.cons t60 R.nil) (rc S)) rfl
  exact R.borF p1 (R.borF p2 (ne_told0 w60))
theorem d59 : dp (nest 59 aV) ≤ 100 := by decide +kernel
theorem is59 : Cl 35 13 [.str (sOf (lst59 59)), .str (sOf (lst59 59))] (.bl true) := law_is (n := 34) (shw_str sok_59) (by decide) (wv_str.mpr sok_59) (by simp [dp]) (by simp [dp]) (by simp [nd])
theorem deepest {σ : Sl} {S : Sto} (h3 : σ[3]? = some (some (nest 59 aV))) : R.E (cx 35) (.bor (.not (.call 13 (.cons (.call 3 (.cons (.var 3) .nil)) (.cons (txE 59) .nil)))) (.bor (.cmp .ne (.call 7 (.cons (txE 59) .nil)) (.var 3)) (.cmp .ne (.word (.call 7 (.cons (txE 60) .nil))) told0E))) σ S (.bl false) S :=
  deep_of (wv_ok _ (dv_wv _ stc6.1)) d59 vt59 rd59 rd60 is59 (tx_ev (n := 59) (.inl rfl)) (tx_ev (n := 60) (.inr rfl)) h3
/-! ### a drawn value -/
theorem eqV2_bl {S : Sto} {a b : Bool} : eqV2 S (.bl a) (.bl b) = some (a == b) := by
  unfold eqV2
  rw [frzV_self rfl, frzV_self rfl]
  simp only [Option.bind_some, toPD]
  unfold eqPD
  rw [if_pos ⟨by simp [PyData.canLay0], by simp [PyData.canLay0], by simp [PyData.depth]⟩]
  simp [PyData.eqv]
section
variable {v : PV} (h : Dr 3 v)
include h
theorem dr_sok : SOk (sOf (txt v)) := by
  have f := h.facts
  have hL : bL 3 = 416 := rfl
  exact ⟨sk_iff.mpr fun c hc => sk_txt v (dv_wv v h.dv) c hc, by rw [sOf_len]; omega⟩
theorem dr_isV : isV 60 [v] = true := isV_dr 3 60 [v] (by decide) fun x hx => by rw [List.mem_singleton.mp hx]; exact h
theorem dr_text : Cl 35 3 [v] (.str (sOf (txt v))) := by
  have f := h.facts
  have hL : bL 3 = 416 := rfl
  have hN : bN 3 = 40 := rfl
  exact value_text_ok (n := 32) (dv_wv v h.dv) (by omega) (by omega) (dr_isV h)
theorem dr_read : Cl 35 7 [.str (sOf (txt v))] v := by
  have hv := vo_whole h.dv
  rcases read_any (dr_sok h) with ⟨_, hh⟩ | ⟨u, h1, h2, _⟩
  · exact absurd ⟨v, by rw [sOf_list]; exact hv, dr_isV h, rfl⟩ hh
  · rw [sOf_list, hv] at h2
    injection h2 with h2
    subst h2
    exact h1
theorem dr_own : Cl 35 14 [v] (.str (sOf (txt v))) := by
  have f := h.facts
  have hL : bL 3 = 416 := rfl
  have hN : bN 3 = 40 := rfl
  exact lvt 35 v (by omega) (dv_wv v h.dv) (by omega) (by omega)
theorem dr_is : Cl 35 13 [v, v] (.bl true) := by
  have f := h.facts
  have hN : bN 3 = 40 := rfl
  obtain ⟨d, s⟩ := shw_dv v h.dv
  exact law_is (n := 34) s (by omega) (dv_wv v h.dv) (by omega) (by omega) (by omega)
theorem dr_is2 : Cl 35 13 [.str (sOf (txt v)), .str (sOf (txt v))] (.bl true) :=
  law_is (n := 34) (shw_str (dr_sok h)) (by decide) (wv_str.mpr (dr_sok h)) (by simp [dp]) (by simp [dp]) (by simp [nd])
end
theorem txt_inj {v u : PV} (hv : Dr 3 v) (hu : Dr 3 u) (h : txt v = txt u) : v = u := by
  have a := vo_whole hv.dv
  rw [h, vo_whole hu.dv] at a
  injection a with a
  exact a.symm
theorem eq_same {v u : PV} (hv : Dr 3 v) (hu : Dr 3 u) : (sOf (txt v) == sOf (txt u)) = bqV v u := by
  rw [Bool.eq_iff_iff, beq_iff_eq]
  refine ⟨fun h => ?_, fun h => by rw [bqV_eq _ _ h]⟩
  rw [txt_inj hv hu (sOf_inj h)]
  exact bqV_self u
mutual
theorem dp_count : ∀ v : PV, wv v = true → dp v ≤ (txt v).count 40
  | .tup l, h => by
    have := dps_count l (by simpa [wv] using h)
    simp only [dp, txt, List.count_cons, List.count_append, List.count_nil]
    have e : (if (40 == 40) = true then 1 else 0) = 1 := rfl
    rw [e]
    omega
  | .non, _ => by simp [dp]
  | .int _, _ => by simp [dp]
  | .str _, _ => by simp [dp]
  | .bl _, h => by simp [wv] at h
  | .lst _, h => by simp [wv] at h
  | .dct _ _, h => by simp [wv] at h
  | .err _ _ _, h => by simp [wv] at h
  | .ref _, h => by simp [wv] at h
theorem dps_count : ∀ l : List PV, wvs l = true → dps l ≤ (txts l).count 40 ∧ dps l ≤ (txtr l).count 40
  | [], _ => by simp [dps]
  | v :: r, h => by
    have h2 : wv v = true ∧ wvs r = true := by simpa [wvs] using h
    have a := dp_count v h2.1
    have b := (dps_count r h2.2).2
    simp only [dps, txts, txtr, List.count_append, List.count_cons]
    omega
end
/-- what is read of a bent text -/
theorem bent_ok {B : List Nat} (hB : SOk (sOf B)) (hc : B.count 40 ≤ 20) : Ce 35 7 [.str (sOf B)] ∨ ∃ u, Cl 35 7 [.str (sOf B)] u ∧ wv u = true ∧ Cl 35 12 [u] (.bl true) ∧ Cl 35 14 [u] (.str (sOf B)) := by
  rcases read_any hB with ⟨h, _⟩ | ⟨u, h1, _, h3, h4, h5, _⟩
  · exact .inl h
  · have e := sOf_inj h5
    have hd := dp_count u h3
    have hl := txt_len u h3
    rw [e] at hd
    refine .inr ⟨u, h1, h3, law_plain 35 u (by omega) h3 (by omega), ?_⟩
    have q := lvt 35 u (by omega) h3 (by omega) (by omega)
    rw [e] at q
    exact q
end Ev.K88

set_option Elab.async false
set_option linter.all false
set_option maxRecDepth 100000
set_option maxHeartbeats 2000000
/-! k88: the plain law -/
namespace Ev.K88
open PySem L2 Ev PyProof.Rows
def lSigns : List PV := [.str (Str.ofString "("), .str (Str.ofString ")"), .str (Str.ofString " "), .str (Str.ofString "A")]
theorem signs_at : ∀ v ∈ lSigns, ∃ c : Nat, v = .str (sOf [c]) ∧ c < 128 := by
  have e1 : Str.ofString "(" = sOf [40] := by decide +kernel
  have e2 : Str.ofString ")" = sOf [41] := by decide +kernel
  have e3 : Str.ofString " " = sOf [32] := by decide +kernel
  have e4 : Str.ofString "A" = sOf [65] := by decide +kernel
  intro v hv
  simp only [lSigns, List.mem_cons, List.not_mem_nil, or_false] at hv
  rcases hv with rfl | rfl | rfl | rfl
  · exact ⟨40, by rw [e1], by decide⟩
  · exact ⟨41, by rw [e2], by decide⟩
  · exact ⟨32, by rw [e3], by decide⟩
  · exact ⟨65, by rw [e4], by decide⟩
def slTo : IE := (.slc false (.var 5) .none (.some (.var 6)))
def signE : IE := (.call 11 (.cons (.var 1) (.cons (.lst false (.cons (.cst (.str (Str.ofString "("))) (.cons (.cst (.str (Str.ofString ")"))) (.cons (.cst (.str (Str.ofString " "))) (.cons (.cst (.str (Str.ofString "A"))) .nil))))) .nil)))
def bentE : IE := (.call 11 (.cons (.var 1) (.cons (.lst false (.cons (.bin .add (.bin .add slTo signE) (.slc false (.var 5) (.some (.var 6)) .none)) (.cons (.bin .add slTo (.slc false (.var 5) (.some (.bin .add (.var 6) (.cst (.int 1)))) .none)) .nil))) .nil)))
theorem bent_ev {t k : Nat} {S : Sto} {w : List Nat} {σ : Sl} (hs : StV t S) (ht : t ≤ 990000) (h1 : σ[1]? = some (some (.ref 1))) (h5 : σ[5]? = some (some (.str (sOf w)))) (h6 : σ[6]? = some (some (.int (k : Int)))) (hw : w.length ≤ 420) (hk : k ≤ w.length) (hsk : ∀ c ∈ w, c < 0x110000) (hc : w.count 40 ≤ 13) :
    ∃ (B : List Nat) (S' : Sto), R.E (cx 35) bentE σ S (.str (sOf B)) S' ∧ SOk (sOf B) ∧ B.count 40 ≤ 20 ∧ StV (t + 2) S' := by
  have hwl : (sOf w).length = w.length := sOf_len w
  have to_ : ∀ {S : Sto}, R.E (cx 35) slTo σ S (.str (sOf (w.take k))) S := fun {S} => by
    refine R.slc (R.var h5) R.oN (R.oS (R.var h6)) ?_
    show (if (sOf w).length ≤ 16000000 then Rs.ok (PV.str (Txt.slice (sOf w) none (some (k : Int)))) S else .bad) = _
    have e : Txt.slice (sOf w) none (some (k : Int)) = sOf (w.take k) := str_ext (by rw [slice_to (by omega), sOf_list, sOf_list])
    rw [if_pos (by omega), e]
  have from_ : ∀ {S : Sto}, R.E (cx 35) (.slc false (.var 5) (.some (.var 6)) .none) σ S (.str (sOf (w.drop k))) S := fun {S} => by
    refine R.slc (R.var h5) (R.oS (R.var h6)) R.oN ?_
    show (if (sOf w).length ≤ 16000000 then Rs.ok (PV.str (Txt.slice (sOf w) (some (k : Int)) none)) S else .bad) = _
    have e : Txt.slice (sOf w) (some (k : Int)) none = sOf (w.drop k) := str_ext (by rw [slice_from, sOf_list, sOf_list])
    rw [if_pos (by omega), e]
  have from1 : ∀ {S : Sto}, R.E (cx 35) (.slc false (.var 5) (.some (.bin .add (.var 6) (.cst (.int 1)))) .none) σ S (.str (sOf (w.drop (k + 1)))) S := fun {S} => by
    refine R.slc (R.var h5) (R.oS (i := ((k + 1 : Nat) : Int)) (R.bin (R.var h6) R.cst rfl)) R.oN ?_
    show (if (sOf w).length ≤ 16000000 then Rs.ok (PV.str (Txt.slice (sOf w) (some ((k + 1 : Nat) : Int)) none)) S else .bad) = _
    have e : Txt.slice (sOf w) (some ((k + 1 : Nat) : Int)) none = sOf (w.drop (k + 1)) := str_ext (by rw [slice_from, sOf_list, sOf_list])
    rw [if_pos (by omega), e]
  obtain ⟨y, S1, p1, p2, p3⟩ := pick_ok (n := 32) (l := lSigns) hs (by omega) (by decide) (by decide)
  obtain ⟨c, rfl, hc128⟩ := signs_at y p2
  have sg : R.E (cx 35) signE σ S (.str (sOf [c])) S1 := R.call (R.cons (R.var h1) (R.cons (R.lstF (R.cons R.cst (R.cons R.cst (R.cons R.cst (R.cons R.cst R.nil))))) R.nil)) p1
  have l1 : (w.take k).length ≤ 420 := by rw [List.length_take]; omega
  have l2 : (w.drop k).length ≤ 420 := by rw [List.length_drop]; omega
  have l3 : (w.drop (k + 1)).length ≤ 420 := by rw [List.length_drop]; omega
  have e1 : R.E (cx 35) (.bin .add (.bin .add slTo signE) (.slc false (.var 5) (.some (.var 6)) .none)) σ S (.str (sOf (w.take k ++ [c] ++ w.drop k))) S1 :=
    R.bin (R.bin to_ sg (bin_add_str (by simp only [List.length_cons, List.length_nil]; omega))) from_ (bin_add_str (by simp only [List.length_append, List.length_cons, List.length_nil]; omega))
  have e2 : R.E (cx 35) (.bin .add slTo (.slc false (.var 5) (.some (.bin .add (.var 6) (.cst (.int 1)))) .none)) σ S1 (.str (sOf (w.take k ++ w.drop (k + 1)))) S1 := R.bin to_ from1 (bin_add_str (by omega))
  obtain ⟨z, S2, q1, q2, q3⟩ := pick_ok (n := 32) (l := [.str (sOf (w.take k ++ [c] ++ w.drop k)), .str (sOf (w.take k ++ w.drop (k + 1)))]) p3 (by omega) (by simp) (by simp)
  have be : R.E (cx 35) bentE σ S z S2 := R.call (R.cons (R.var h1) (R.cons (R.lstF (R.cons e1 (R.cons e2 R.nil))) R.nil)) q1
  have cnt : w.count 40 = (w.take k).count 40 + (w.drop k).count 40 := by rw [← List.count_append, List.take_append_drop]
  have cnt1 : (w.drop (k + 1)).count 40 ≤ (w.drop k).count 40 := by
    have : w.drop (k + 1) = (w.drop k).drop 1 := by rw [List.drop_drop]
    rw [this]
    exact List.Sublist.count_le _ (List.drop_sublist 1 _)
  have lt1 : (w.take k).length = k := by rw [List.length_take]; omega
  have ld : (w.drop k).length = w.length - k := List.length_drop
  have ld1 : (w.drop (k + 1)).length = w.length - (k + 1) := List.length_drop
  simp only [List.mem_cons, List.not_mem_nil, or_false] at q2
  rcases q2 with rfl | rfl
  · refine ⟨_, S2, be, ⟨sk_iff.mpr fun x hx => ?_, ?_⟩, ?_, q3⟩
    · rw [sOf_list] at hx
      simp only [List.mem_append, List.mem_cons, List.not_mem_nil, or_false] at hx
      rcases hx with (hx | rfl) | hx
      · exact hsk x (List.mem_of_mem_take hx)
      · omega
      · exact hsk x (List.mem_of_mem_drop hx)
    · rw [sOf_len]
      simp only [List.length_append, List.length_cons, List.length_nil]
      omega
    · simp only [List.count_append]
      have : [c].count 40 ≤ 1 := by
        have := List.count_le_length (a := 40) (l := [c])
        simpa using this
      omega
  · refine ⟨_, S2, be, ⟨sk_iff.mpr fun x hx => ?_, ?_⟩, ?_, q3⟩
    · rw [sOf_list] at hx
      simp only [List.mem_append] at hx
      rcases hx with hx | hx
      · exact hsk x (List.mem_of_mem_take hx)
      · exact hsk x (List.mem_of_mem_drop hx)
    · rw [sOf_len]
      simp only [List.length_append]
      omega
    · simp only [List.count_append]
      omega
def bMain : ISs := (.cons (.par [9, 10] (.cons (.call 15 (.cons (.var 1) (.cons (.cst (.int 3)) .nil))) (.cons (.call 15 (.cons (.var 1) (.cons (.cst (.int 3)) .nil))) .nil)))
    (.cons (.asg 5 (.call 14 (.cons (.var 9) .nil)))
    (.cons (.ifs (.bor (.not (.call 13 (.cons (.call 3 (.cons (.var 9) .nil)) (.cons (.var 5) .nil)))) (.bor (.not (.call 13 (.cons (.call 7 (.cons (.var 5) .nil)) (.cons (.var 9) .nil)))) (.bor (.not (.call 13 (.cons (.call 7 (.cons (.var 5) .nil)) (.cons (.var 9) .nil)))) (.not (.call 13 (.cons (.call 3 (.cons (.var 9) .nil)) (.cons (.var 5) .nil))))))) (.cons (.ret (.cst (.bl false)))
    .nil) .nil)
    (.cons (.ifs (.cmp .ne (.cmp .eq (.call 3 (.cons (.var 9) .nil)) (.call 3 (.cons (.var 10) .nil))) (.cmp .eq (.var 9) (.var 10))) (.cons (.ret (.cst (.bl false)))
    .nil) .nil)
    (.cons (.asg 6 (.call 10 (.cons (.var 1) (.cons (.bin .add (.bi .len (.var 5)) (.cst (.int 1))) .nil))))
    (.cons (.asg 7 bentE)
    (.cons (.asg 8 (.word (.call 7 (.cons (.var 7) .nil))))
    (.cons (.ifs (.band (.cmp .ne (.var 8) told0E) (.bor (.not (.call 12 (.cons (.var 8) .nil))) (.cmp .ne (.call 14 (.cons (.var 8) .nil)) (.var 7)))) (.cons (.ret (.cst (.bl false)))
    .nil) .nil)
    .nil))))))))
theorem main_step {t : Nat} {S : Sto} {sc a2 a3 a4 a5 a6 a7 a8 a9 a10 : Option PV} (hs : StV t S) (ht : t ≤ 900000) : ∃ b5 b6 b7 b8 b9 b10 S', R.Ss (cx 35) bMain (L11 sc a2 a3 a4 a5 a6 a7 a8 a9 a10) S (.nx (L11 sc a2 a3 a4 b5 b6 b7 b8 b9 b10)) S' ∧ StV (t + 200) S' := by
  have hK : bK 3 = 80 := rfl
  obtain ⟨v, S1, e1, hv, hs1⟩ := some_ok 3 28 t S hs (by omega)
  obtain ⟨u, S2, e2, hu, hs2⟩ := some_ok 3 28 (t + bK 3) S1 hs1 (by omega)
  have fv := hv.facts
  have hL : bL 3 = 416 := rfl
  have hC : bC 3 = 13 := rfl
  have s1 : R.St (cx 35) (.par [9, 10] (.cons (.call 15 (.cons (.var 1) (.cons (.cst (.int 3)) .nil))) (.cons (.call 15 (.cons (.var 1) (.cons (.cst (.int 3)) .nil))) .nil))) (L11 sc a2 a3 a4 a5 a6 a7 a8 a9 a10) S (.nx (L11 sc a2 a3 a4 a5 a6 a7 a8 (some v) (some u))) S2 :=
    R.par (vs := [v, u]) (R.cons (R.call (R.cons (R.var rfl) (R.cons R.cst R.nil)) e1) (R.cons (R.call (R.cons (R.var rfl) (R.cons R.cst R.nil)) e2) R.nil)) rfl
  let T : PV := .str (sOf (txt v))
  have s2 : R.St (cx 35) (.asg 5 (.call 14 (.cons (.var 9) .nil))) (L11 sc a2 a3 a4 a5 a6 a7 a8 (some v) (some u)) S2 (.nx (L11 sc a2 a3 a4 (some T) a6 a7 a8 (some v) (some u))) S2 := R.asg (R.call (R.cons (R.var rfl) R.nil) (dr_own hv S2))
  have k1 : R.E (cx 35) (.not (.call 13 (.cons (.call 3 (.cons (.var 9) .nil)) (.cons (.var 5) .nil)))) (L11 sc a2 a3 a4 (some T) a6 a7 a8 (some v) (some u)) S2 (.bl false) S2 := R.not (b := true) (R.call (R.cons (R.call (R.cons (R.var rfl) R.nil) (dr_text hv S2)) (R.cons (R.var rfl) R.nil)) (dr_is2 hv S2))
  have k2 : R.E (cx 35) (.not (.call 13 (.cons (.call 7 (.cons (.var 5) .nil)) (.cons (.var 9) .nil)))) (L11 sc a2 a3 a4 (some T) a6 a7 a8 (some v) (some u)) S2 (.bl false) S2 := R.not (b := true) (R.call (R.cons (R.call (R.cons (R.var rfl) R.nil) (dr_read hv S2)) (R.cons (R.var rfl) R.nil)) (dr_is hv S2))
  have s3 := R.ifs (C := cx 35) (a := .cons (.ret (.cst (.bl false))) .nil) (b := .nil) (o := .nx (L11 sc a2 a3 a4 (some T) a6 a7 a8 (some v) (some u))) (S2 := S2) (R.borF k1 (R.borF k2 (R.borF k2 k1))) (fun z => nomatch z) fun _ => R.ssN
  have ov := wv_ok _ (dv_wv v hv.dv)
  have ou := wv_ok _ (dv_wv u hu.dv)
  have k3 : R.E (cx 35) (.cmp .ne (.cmp .eq (.call 3 (.cons (.var 9) .nil)) (.call 3 (.cons (.var 10) .nil))) (.cmp .eq (.var 9) (.var 10))) (L11 sc a2 a3 a4 (some T) a6 a7 a8 (some v) (some u)) S2 (.bl false) S2 := by
    have x1 : R.E (cx 35) (.cmp .eq (.call 3 (.cons (.var 9) .nil)) (.call 3 (.cons (.var 10) .nil))) (L11 sc a2 a3 a4 (some T) a6 a7 a8 (some v) (some u)) S2 (.bl (sOf (txt v) == sOf (txt u))) S2 :=
      R.cmp (R.call (R.cons (R.var rfl) R.nil) (dr_text hv S2)) (R.call (R.cons (R.var rfl) R.nil) (dr_text hu S2)) (eqV2_str (S := S2) (dr_sok hv).1 (dr_sok hu).1)
    have x2 : R.E (cx 35) (.cmp .eq (.var 9) (.var 10)) (L11 sc a2 a3 a4 (some T) a6 a7 a8 (some v) (some u)) S2 (.bl (bqV v u)) S2 := R.cmp (R.var rfl) (R.var rfl) (eqV2_ok (S := S2) ov ou (by omega))
    refine R.cmp x1 x2 ?_
    rw [cmp_ne, eqV2_bl, eq_same hv hu]
    simp
  have s4 := R.ifs (C := cx 35) (a := .cons (.ret (.cst (.bl false))) .nil) (b := .nil) (o := .nx (L11 sc a2 a3 a4 (some T) a6 a7 a8 (some v) (some u))) (S2 := S2) k3 (fun z => nomatch z) fun _ => R.ssN
  have ln : R.E (cx 35) (.bi .len (.var 5)) (L11 sc a2 a3 a4 (some T) a6 a7 a8 (some v) (some u)) S2 (.int ((txt v).length : Int)) S2 := by
    refine R.bi (x := T) (R.var rfl) ?_
    show (if (sOf (txt v)).length ≤ 16000000 then some (PV.int ((sOf (txt v)).length : Int)) else none) = _
    rw [sOf_len, if_pos (by omega)]
  obtain ⟨m, S3, d1, d2, d3, hs3⟩ := draw_ok (n := 33) (room := ((txt v).length : Int) + 1) hs2 (by omega) (by omega) (by
    have : (((txt v).length : Int) + 1).natAbs = (txt v).length + 1 := by omega
    rw [this]
    exact Nat.lt_of_le_of_lt (show _ ≤ 500 by omega) (by decide))
  obtain ⟨k, rfl⟩ := Int.eq_ofNat_of_zero_le d2
  have s5 : R.St (cx 35) (.asg 6 (.call 10 (.cons (.var 1) (.cons (.bin .add (.bi .len (.var 5)) (.cst (.int 1))) .nil)))) (L11 sc a2 a3 a4 (some T) a6 a7 a8 (some v) (some u)) S2 (.nx (L11 sc a2 a3 a4 (some T) (some (.int (k : Int))) a7 a8 (some v) (some u))) S3 := R.asg (R.call (R.cons (R.var rfl) (R.cons (R.bin ln R.cst rfl) R.nil)) d1)
  obtain ⟨B, S4, b1, b2, b3, hs4⟩ := bent_ev (k := k) (w := txt v) (σ := L11 sc a2 a3 a4 (some T) (some (.int (k : Int))) a7 a8 (some v) (some u)) hs3 (by omega) rfl rfl rfl (by omega) (by omega) (sk_txt v (dv_wv v hv.dv)) (by omega)
  have s6 : R.St (cx 35) (.asg 7 bentE) (L11 sc a2 a3 a4 (some T) (some (.int (k : Int))) a7 a8 (some v) (some u)) S3 (.nx (L11 sc a2 a3 a4 (some T) (some (.int (k : Int))) (some (.str (sOf B))) a8 (some v) (some u))) S4 := R.asg b1
  have fin : ∀ w : PV, R.E (cx 35) (.word (.call 7 (.cons (.var 7) .nil))) (L11 sc a2 a3 a4 (some T) (some (.int (k : Int))) (some (.str (sOf B))) a8 (some v) (some u)) S4 w S4 →
      R.E (cx 35) (.band (.cmp .ne (.var 8) told0E) (.bor (.not (.call 12 (.cons (.var 8) .nil))) (.cmp .ne (.call 14 (.cons (.var 8) .nil)) (.var 7)))) (L11 sc a2 a3 a4 (some T) (some (.int (k : Int))) (some (.str (sOf B))) (some w) (some v) (some u)) S4 (.bl false) S4 →
      ∃ b5 b6 b7 b8 b9 b10 S', R.Ss (cx 35) bMain (L11 sc a2 a3 a4 a5 a6 a7 a8 a9 a10) S (.nx (L11 sc a2 a3 a4 b5 b6 b7 b8 b9 b10)) S' ∧ StV (t + 200) S' := fun w h1 h2 =>
    ⟨_, _, _, _, _, _, S4, R.ssC s1 (R.ssC s2 (R.ssC s3 (R.ssC s4 (R.ssC s5 (R.ssC s6 (R.ssC (R.asg h1) (R.ssC (R.ifs h2 (fun z => nomatch z) fun _ => R.ssN) R.ssN))))))), hs4.mono (by omega)⟩
  rcases bent_ok b2 b3 with hce | ⟨w, h1, h2, h3, h4⟩
  · exact fin told0 (wordCe (j := 7) hce rfl) (R.bandF (ne_told0 (R.var rfl)))
  · refine fin w (R.wordOk (R.call (R.cons (R.var rfl) R.nil) (h1 S4))) ?_
    have ow := wv_ok w h2
    have n1 := ne_told (n := 35) (e := .var 8) (σ := L11 sc a2 a3 a4 (some T) (some (.int (k : Int))) (some (.str (sOf B))) (some w) (some v) (some u)) (S := S4) (R.var rfl) ow
    cases hb : bqV w told0 with
    | true =>
      rw [hb] at n1
      exact R.bandF n1
    | false =>
      rw [hb] at n1
      refine R.bandT n1 (R.borF (R.not (b := true) (R.call (R.cons (R.var rfl) R.nil) (h3 S4))) (R.cmp (R.call (R.cons (R.var rfl) R.nil) (h4 S4)) (R.var rfl) ?_))
      rw [cmp_ne, eqV2_str b2.1 b2.1]
      simp
theorem main_loop {q : List PV} {t : Nat} {S : Sto} {sc a2 a3 : Option PV} (hs : StV t S) (ht : t + 200 * q.length ≤ 900000) :
    ∃ a4 b5 b6 b7 b8 b9 b10 S', forGo (fun S' => stays S' (q, none)) (fun σ' S' => evSs (cx 35) bMain σ' S') (.one 4) q (L11 sc a2 a3 none none none none none none none) S = .ok (.nx (L11 sc a2 a3 a4 b5 b6 b7 b8 b9 b10)) S' := by
  have r := R.forI (ok := fun S' => stays S' (q, none)) (body := fun σ' S' => evSs (cx 35) bMain σ' S') (tg := .one 4)
    (fun r σ S' => ∃ t a4 b5 b6 b7 b8 b9 b10, σ = L11 sc a2 a3 a4 b5 b6 b7 b8 b9 b10 ∧ StV t S' ∧ t + 200 * r.length ≤ 900000)
    (fun _ _ => False) (fun _ _ _ _ => rfl)
    (fun a r σ S' ⟨t, a4, b5, b6, b7, b8, b9, b10, e1, e2, e3⟩ => by
      subst e1
      simp only [List.length_cons] at e3
      obtain ⟨c5, c6, c7, c8, c9, c10, S2, h1, h2⟩ := main_step (sc := sc) (a2 := a2) (a3 := a3) (a4 := some a) (a5 := b5) (a6 := b6) (a7 := b7) (a8 := b8) (a9 := b9) (a10 := b10) e2 (by omega)
      exact ⟨_, rfl, .inl ⟨_, _, .inl h1, t + 200, some a, c5, c6, c7, c8, c9, c10, rfl, h2, by omega⟩⟩)
    q (L11 sc a2 a3 none none none none none none none) S ⟨t, none, none, none, none, none, none, none, rfl, hs, ht⟩
  rcases r with ⟨σ2, S2, e, t, a4, b5, b6, b7, b8, b9, b10, e1, _⟩ | ⟨_, _, _, z⟩
  · subst e1
    exact ⟨a4, b5, b6, b7, b8, b9, b10, S2, e⟩
  · exact z.elim
theorem plain_law (zs : List Int) (hz : zs.length ≤ 63) : ∃ S, evF P0 36 17 [.lst (zs.map .int)] [] = .ok (.bl true) S := by
  obtain ⟨gs, cs, hb, hg, hc⟩ := begun_ok (n := 34) hz
  let sc : Option PV := some (.lst (zs.map .int))
  let S0 : Sto := sto gs cs 0 0
  have hs : StV 0 S0 := ⟨gs, cs, 0, 0, rfl, hg, hc, Nat.le_refl _⟩
  have s1 : R.St (cx 35) (.asg 1 (.call 8 (.cons (.var 0) .nil))) [sc, none, none, none, none, none, none, none, none, none, none] [] (.nx (L11 sc none none none none none none none none none)) S0 := R.asg (R.call (R.cons (R.var rfl) R.nil) hb)
  obtain ⟨x, l1⟩ := thing_loop (n := 35) (i := 3) (l := things1) (S := S0) (sc := sc) (a2 := none) (a3 := none) ce1
  have q1 : evSrc (cx 35) (.seq (.lst false (.cons (.cst (.str (Str.ofString "A"))) (.cons (.cst (.str (Str.ofString ""))) (.cons (.cst (.str (Str.ofString "a b"))) (.cons (.cst (.str (Str.ofString "a1"))) (.cons (.cst (.str (Str.ofString "-"))) (.cons (.bin .pow (.cst (.int 10)) (.cst (.int 12))) (.cons (.bin .sub (.cst (.int 0)) (.bin .pow (.cst (.int 10)) (.cst (.int 12)))) (.cons (.cst (.bl true)) (.cons (.lst false (.cons (.cst (.str (Str.ofString "a"))) .nil)) (.cons (.tup (.cons (.cst (.str (Str.ofString "a"))) (.cons (.lst false (.cons (.cst (.str (Str.ofString "b"))) .nil)) .nil))) (.cons (.tup (.cons (.cst (.str (Str.ofString "a"))) (.cons (.cst (.str (Str.ofString "B"))) .nil))) (.cons (.call 16 (.cons (.cst (.int 60)) (.cons (.cst (.str (Str.ofString "a"))) .nil))) (.cons (.tup (.cons (.cst (.str (Str.ofString "a"))) (.cons (.cst (.bl true)) .nil))) .nil))))))))))))))) (L11 sc none none none none none none none none none) S0 = .ok (things1, none) S0 := by
    have pw : R.E (cx 35) (.bin .pow (.cst (.int 10)) (.cst (.int 12))) (L11 sc none none none none none none none none none) S0 (.int ((10 : Int) ^ 12)) S0 := R.bin R.cst R.cst (by
      show (if (0 : Int) ≤ 12 ∧ (12 : Int) ≤ 1000000 ∧ (10 : Int).natAbs < 2 ^ 64 then some (PV.int ((10 : Int) ^ (12 : Int).toNat)) else none) = _
      rw [if_pos ⟨by decide, by decide, by decide⟩]
      rfl)
    exact R.seq (v := .lst things1) (R.lstF (R.cons R.cst (R.cons R.cst (R.cons R.cst (R.cons R.cst (R.cons R.cst (R.cons pw (R.cons (R.bin R.cst pw rfl) (R.cons R.cst (R.cons (R.lstF (R.cons R.cst R.nil)) (R.cons (R.tup (R.cons R.cst (R.cons (R.lstF (R.cons R.cst R.nil)) R.nil))) (R.cons (R.tup (R.cons R.cst (R.cons R.cst R.nil))) (R.cons (R.call (R.cons R.cst (R.cons R.cst R.nil)) (cl60 S0)) (R.cons (R.tup (R.cons R.cst (R.cons R.cst R.nil))) R.nil)))))))))))))) rfl
  have s2 := R.for_ (C := cx 35) (b := bT 3) q1 l1
  have s3 : R.St (cx 35) (.asg 3 (.call 16 (.cons (.cst (.int 59)) (.cons (.cst (.str (Str.ofString "a"))) .nil)))) (L11 sc x none none none none none none none none) S0 (.nx (L11 sc x (some (nest 59 aV)) none none none none none none none)) S0 := R.asg (R.call (R.cons R.cst (R.cons R.cst R.nil)) (cl59 S0))
  have dp := deepest (σ := L11 sc x (some (nest 59 aV)) none none none none none none none) (S := S0) rfl
  have s4 := R.ifs (C := cx 35) (a := .cons (.ret (.cst (.bl false))) .nil) (b := .nil) (o := .nx (L11 sc x (some (nest 59 aV)) none none none none none none none)) (S2 := S0) dp (fun z => nomatch z) fun _ => R.ssN
  obtain ⟨y, l2⟩ := thing_loop (n := 35) (i := 7) (l := things2) (S := S0) (sc := sc) (a2 := x) (a3 := some (nest 59 aV)) ce2
  have q2 : ∀ {σ : Sl}, evSrc (cx 35) (.seq (.lst false (.cons (.cst .non) (.cons (.cst (.int 5)) (.cons (.cst (.str (Str.ofString ""))) (.cons (.cst (.str (Str.ofString " "))) (.cons (.cst (.str (Str.ofString "A"))) (.cons (.cst (.str (Str.ofString "a b"))) (.cons (.cst (.str (Str.ofString "01"))) (.cons (.cst (.str (Str.ofString "-0"))) (.cons (.cst (.str (Str.ofString "--1"))) (.cons (.cst (.str (Str.ofString "+1"))) (.cons (.cst (.str (Str.ofString "1000000000000"))) (.cons (.cst (.str (Str.ofString "("))) (.cons (.cst (.str (Str.ofString ")"))) (.cons (.cst (.str (Str.ofString "(a"))) (.cons (.cst (.str (Str.ofString "a)"))) (.cons (.cst (.str (Str.ofString "(a))"))) (.cons (.cst (.str (Str.ofString "( a)"))) (.cons (.cst (.str (Str.ofString "(a )"))) (.cons (.cst (.str (Str.ofString "(a  b)"))) (.cons (.cst (.str (Str.ofString "()()"))) (.cons (.cst (.str (Str.ofString "(a)(b)"))) (.cons (.cst (.str (Str.ofString "a()"))) (.cons (.cst (.str (Str.ofString "1a"))) (.cons (.cst (.str (Str.ofString "a1"))) (.cons (.cst (.str (Str.ofString "- 1"))) (.cons (.cst (.str (Str.ofString "(-)-"))) (.cons (.cst (.str (Str.ofString "(a\nb)"))) (.cons (.cst (.str (Str.ofString "1/2"))) .nil)))))))))))))))))))))))))))))) σ S0 = .ok (things2, none) S0 := fun {σ} =>
    R.seq (v := .lst things2) (R.lstF (R.cons R.cst (R.cons R.cst (R.cons R.cst (R.cons R.cst (R.cons R.cst (R.cons R.cst (R.cons R.cst (R.cons R.cst (R.cons R.cst (R.cons R.cst (R.cons R.cst (R.cons R.cst (R.cons R.cst (R.cons R.cst (R.cons R.cst (R.cons R.cst (R.cons R.cst (R.cons R.cst (R.cons R.cst (R.cons R.cst (R.cons R.cst (R.cons R.cst (R.cons R.cst (R.cons R.cst (R.cons R.cst (R.cons R.cst (R.cons R.cst (R.cons R.cst R.nil))))))))))))))))))))))))))))) rfl
  have s5 := R.for_ (C := cx 35) (b := bT 7) q2 l2
  -- the turns
  let i : Int := 8 + (if (10 : Int) < ((zs.map PV.int).length : Int) then 10 else ((zs.map PV.int).length : Int))
  have hi0 : 0 ≤ i := by
    show (0 : Int) ≤ 8 + (if (10 : Int) < ((zs.map PV.int).length : Int) then 10 else ((zs.map PV.int).length : Int))
    split <;> omega
  have hi1 : i ≤ 18 := by
    show 8 + (if (10 : Int) < ((zs.map PV.int).length : Int) then 10 else ((zs.map PV.int).length : Int)) ≤ (18 : Int)
    split <;> omega
  have rn : evSrc (cx 35) (.rng (.bin .add (.cst (.int 8)) (.bi2 .min (.bi .len (.var 0)) (.cst (.int 10))))) (L11 sc y (some (nest 59 aV)) none none none none none none none) S0 = .ok (rngItems 0 i, none) S0 :=
    R.rng (i := i) (R.bin R.cst (R.bi2 (x := .int ((zs.map PV.int).length : Int)) (R.bi (x := .lst (zs.map .int)) (R.var rfl) rfl) R.cst rfl) rfl) (by
      unfold rngOk
      exact decide_eq_true ⟨by decide, by decide, by omega, by omega⟩)
  have hlen : (rngItems 0 i).length ≤ 18 := by
    simp only [rngItems, List.length_map, List.length_range]
    omega
  obtain ⟨a4, b5, b6, b7, b8, b9, b10, S', ml⟩ := main_loop (q := rngItems 0 i) (S := S0) (sc := sc) (a2 := y) (a3 := some (nest 59 aV)) hs (by omega)
  have s6 := R.for_ (C := cx 35) (b := bMain) rn ml
  refine ⟨S', ?_⟩
  rw [evF_mut (d := ⟨1, 11, false, b_law⟩) rfl rfl]
  have body : R.Ss (cx 35) b_law [sc, none, none, none, none, none, none, none, none, none, none] [] (.rt (.bl true)) S' := R.ssC s1 (R.ssC s2 (R.ssC s3 (R.ssC s4 (R.ssC s5 (R.ssC s6 (R.ssR (R.ret R.cst)))))))
  exact R.run rfl body
end Ev.K88

set_option Elab.async false
set_option linter.all false
set_option maxRecDepth 100000
set_option maxHeartbeats 2000000
/-! k88: the law, if its plain law stands -/
namespace Ev.K88
open PySem PySem.Spec PyProof.Rows L2 Ev
def Plain : Prop := ∀ zs : List Int, zs.length ≤ 63 → (∀ z ∈ zs, Builtin.Int.intBits z ≤ 1048576) → ∃ S, evF P0 36 17 [.lst (zs.map PV.int)] [] = .ok (.bl true) S
theorem rvs_ints {Z : Fx} {F M : List Addr} {H : Hp} : ∀ zs : List Int, RVs Z F M H (zs.map PV.int) (zs.map V.int)
  | [] => .nil
  | z :: r => .cons (.int z) (rvs_ints r)
theorem tab0 {T : List (Addr × Str)} {H : Hp} (h : ∀ p ∈ T, H p.1 = some (.tbl #[])) : LamX.Tabs T H := fun p hp =>
  ⟨#[], h p hp, trivial, fun pos cv e => by cases e⟩
theorem law_here (PL : Plain) {w : World} {mg mb : Str → Option Value} {fa a : Addr} {s₁ : Shared} {vs : List Value} {zs : List Int} {K : PySem.W.Frag} (KX : K.In s₁.heap) (c : SaysZ LL s₁.heap K)
    (g : s₁.heap.Ns mainGlobals mg) (hBs : s₁.heap.Ns builtinsNs mb) (hBoot : ∀ x : Str, x ≠ "__name__" → mb x = bootBuiltins x) (hLim : s₁.heap.NoLimit) (hGens : s₁.gens = #[])
    (hMain : ∃ (bMod : Addr) (bObj : Obj), mg "__builtins__" = some (.ref bMod) ∧ bMod ≠ builtinsNs ∧ s₁.heap.get? bMod = some bObj ∧ bObj.cls = .type "module" ∧ bObj.dict = some builtinsNs ∧ bObj.data = .plain)
    (hobj : s₁.heap.get? a = some { cls := .type "list", data := .seq vs.toArray }) (hints : IntsAre vs zs) (hlen : zs.length ≤ 63) (hbits : ∀ z ∈ zs, Builtin.Int.intBits z ≤ 1048576) (hmg : mg ("law" : Str) = some (.ref fa)) :
    codeAny (model PP w) callerA (.call (.ref fa) ⟨[.ref a], []⟩) (fun r sB => r = .ok (.ret (.bool true)) ∧ OldK s₁.heap sB.heap ∧ sB.os = s₁.os ∧ AllBare sB.gens) s₁ := by
  have two : ∀ {p : Addr × Addr}, p ∈ [He.cT K pw, He.cT K pl] → ∃ q ∈ LL.ts, p = He.cT K q := fun {p} hp => by
    rcases List.mem_cons.mp hp with e | hp
    · exact ⟨pw, List.mem_cons_self, e⟩
    · rcases List.mem_cons.mp hp with e | hp
      · exact ⟨pl, List.mem_cons_of_mem _ List.mem_cons_self, e⟩
      · cases hp
  refine law_callR (K := K) (tbs := [He.cT K pw, He.cT K pl]) KX g hBs hBoot hLim hGens (fun p hp => ?_) (fun p hp => ?_) (fun p hp => ?_) hMain hobj hints (Nat.le_trans hlen (by decide)) fun base kb nb TB H e0 hTab hS => ?_
  · obtain ⟨q, hq, rfl⟩ := two hp
    exact c.empty q hq
  · obtain ⟨q, hq, rfl⟩ := two hp
    exact c.out q hq
  · obtain ⟨q, hq, rfl⟩ := two hp
    exact PySem.W.codeHd_of_K KX (c.hd q hq)
  · have PLC := pl_of (base := base) (wo := w) (E := exIs (ZZ K) (tab K)) KX g c
    have RU := rules_of (base := base) (wo := w) KX g c TB
    obtain ⟨f, fd, hm, kp, hb, hk, R⟩ := kept PLC RU 36 17 _ rfl
    have ef : f = fa := by
      have e := hm.symm.trans hmg
      injection e with e
      injection e
    subst ef
    obtain ⟨S, hev⟩ := PL zs hlen hbits
    have nl := (ex_all c).2.2.2.2.2.2.2.2.1
    have rd : Rd H a (.lst (zs.map V.int)) := by
      rcases hS with h | ⟨o, its, n, e1, e2, _⟩
      · exact h
      · exact (noLst_ok nl e1 e2).elim
    have b := hb s₁ [.ref a] KX rfl
    rw [List.append_nil] at b
    refine R.run callerA [] s₁ H ⟨[.ref a], []⟩ [.ref a] [.ref a] [.lst (zs.map PV.int)] [] [] [] _ _ ⟨rfl, by decide, by decide⟩ rfl e0 b (.cons rfl .nil) ⟨rfl, .nil, fun n a o h _ => by simp at h, fun _ h => by simp at h, fun _ h => by simp at h, tab0 fun p hp => ?_⟩ (.cons (.lst rd (by simp) (by simp) (rvs_ints zs)) .nil) ?_
    · rcases List.mem_cons.mp hp with rfl | hp
      · exact hTab _ List.mem_cons_self
      · rcases List.mem_cons.mp hp with rfl | hp
        · exact hTab _ (List.mem_cons_of_mem _ List.mem_cons_self)
        · cases hp
    · rw [hev]
      intro M1 H1 u x r rv
      have rv : RV (ZZ K) [] M1 H1 (.bl true) u := rv
      cases rv
      rfl
end Ev.K88
open PySem PySem.W PySem.Calls PyProof.Rows
theorem Ev.K88.holds_of (PL : Ev.K88.Plain) : PySem.Challenge.rw_wheelbook_k88_values_written.Holds := by
  w_on; o_law
  refine HandSHeadRun.head_any (r := OpenLaw.row PySem.Challenge.rw_wheelbook_k88_values_written) (q := view (OpenLaw.row PySem.Challenge.rw_wheelbook_k88_values_written).prog [43]) (H := Ev.K88.hk) (ob := Ev.K88.ob) (M := 12000) (loose := Ev.K88.loose) (d := HandSHeadRun.topDef (OpenLaw.row PySem.Challenge.rw_wheelbook_k88_values_written).prog 43) (kwd := []) Ev.K88.ob_eq
    (by kernel_rfl) (fun s => by kernel_rfl) Ev.K88.run (by kernel_rfl) (by kernel_rfl) (by kernel_rfl) (by rfl) (by first | assumption | decide +kernel) (by decide +kernel) ⟨rfl, rfl, rfl, rfl, rfl, by decide +kernel⟩ ?hw ?hc
  case hw => w_witness2
  case hc =>
    refine Att.attach_callB (l := PySem.Challenge.rw_wheelbook_k88_values_written) (n := 63) rfl (by kernel_rfl) fun w s₀ s₁ mg mb fa o pm cd doc a vs ns G Y ho hd hcd hmg0 hobj hints hlen hbits hg => ?_
    obtain ⟨K, KX, c⟩ := Y
    have hmg : mg ("law" : PySem.Str) = some (.ref fa) := by
      have e : (HandSHeadRun.topDef (OpenLaw.row PySem.Challenge.rw_wheelbook_k88_values_written).prog 43).name = ("law" : PySem.Str) := by kernel_rfl
      rw [← e]
      exact hmg0
    exact Ev.K88.law_here PL KX c G.T.g G.T.b G.T.builtins G.T.nolimit hg G.T.bmain hobj hints hlen hbits hmg

theorem PySem.Challenge.cw_wheelbook_k88_values_written_holds : PySem.Challenge.rw_wheelbook_k88_values_written.Holds := by
  exact Ev.K88.holds_of fun zs h _ => Ev.K88.plain_law zs h
